import PyProof.Rows.All
import Wide.All
import OpenK.AllK
import Wide.FinOn
import PySem.Challenge.RW_pq0408_01
set_option Elab.async false
set_option linter.all false
set_option linter.unusedVariables false
set_option tactic.hygienic false
set_option genSizeOf false
set_option genInjectivity false
set_option bootstrap.genMatcherCode false
section
namespace Internal
open PySem
noncomputable section
inductive V where
  |unb
  |none
  |bool (b:Bool)
  |int (i:Int)
  |bytes (l:List UInt8)
  |str (x:String)
  |ref (a:Nat)
inductive O where
  |list (m:Bool) (vs:List V)
  |tup (vs:List V)
  |dict (m:Bool) (kvs:List (V×V))
  |inst (C dx:Nat)
  |idict (fs:List (String×V))
noncomputable abbrev Sto:=Nat→Option O
noncomputable def Ext (W:List Nat)(σ σ':Sto):Prop:=∀a o,a∉W→σ a=some o→σ' a=some o
inductive BOp where |add |sub |mul |mod |fdiv |pow |shl
inductive COp where |eq |ne |lt |le |gt |ge |is |isnt |inn |nin
inductive Ty where |list |bytes |bool
inductive Hd where |retNone |cont
set_option genCtorIdx false
mutual
inductive X where
  |loc (i:Nat)
  |glo (x:String) (v:V)
  |cst (v:V)
  |bin (op:BOp) (a b:X)
  |neg (a:X)
  |cmp (a:X) (op:COp) (b:X)
  |andv (a b:X)
  |ite (c:T) (a b:X)
  |tup (xs:List X)
  |lst (m:Bool) (xs:List X)
  |dct (m:Bool) (ks vs:List X)
  |sub (a i:X)
  |slc (a:X) (lo hi:Bool) (xs:List X)
  |rev (a:X)
  |att (a:X) (n:String)
  |fn (f:Nat) (xs:List X)
  |mk (c:Nat) (xs:List X)
  |mth (a:X) (n:String) (xs:List X)
  |len (a:X)
  |isi (a:X) (t:Ty)
  |byt (a:X)
  |dcp (a:X)
  |toB (a n:X) (little:Bool)
  |frB (a:X)
  |bitl (a:X)
  |join (a:X)
  |comp (k:Nat) (tupled:Bool) (rng:Bool) (it:X) (ifs:List T) (elt:X) (nms:List String) (caps:List Nat)
  |comp2 (it1 it2:X) (elt:X) (nms:List String)
inductive T where
  |val (x:X)
  |not (t:T)
  |and (ts:List T)
  |or (ts:List T)
  |ite (c a b:T)
  |cmp (a:X) (ops:List COp) (xs:List X)
end
inductive Tg where
  |loc (i:Nat)
  |tup (ts:List Tg)
  |sub (o i:X)
  |att (o:X) (n:String)
inductive S where
  |asg (t:Tg) (x:X)
  |app (o x:X)
  |exp (x:X)
  |ite (c:T) (a b:List S)
  |forV (t:Tg) (it:X) (body:List S)
  |forR (i:Nat) (n:X) (body:List S)
  |forE (i j:Nat) (x:X) (body:List S)
  |whl (c:T) (body:List S)
  |ret (x:X)
  |rse (c:Nat) (w:String)
  |tryc (body:List S) (c:Nat) (h:Hd)
  |cont
  |pass
  |frz (i:Nat)
set_option genCtorIdx true
inductive Fl where |next |cont |brk |ret (v:V)
structure Fd where
  np:Nat
  nm:List String
  body:List S
noncomputable def V.noRef:V→Bool
  |.none |.bytes _=>true
  |_=>false
noncomputable def keyEq:V→V→Bool
  |.int a,.int b=>a==b
  |.str a,.str b=>a==b
  |_,_=>false
noncomputable def V.isStr:V→Bool |.str _=>true |_=>false
noncomputable def V.isInt:V→Bool |.int _=>true |_=>false
noncomputable def strKeys (kv:List (V×V)):Bool:=kv.all fun p=>p.1.isStr
noncomputable def intKeys (kv:List (V×V)):Bool:=kv.all fun p=>p.1.isInt
noncomputable def dget (k:V):List (V×V)→Option V
  | []=>none
  |(k',v)::r=>if keyEq k k' then some v else dget k r
noncomputable def dset (k v:V)(kv:List (V×V)):List (V×V):=
  if kv.any (fun p=>keyEq k p.1) then kv.map (fun p=>if keyEq k p.1 then (p.1,v) else p) else kv++[(k,v)]
noncomputable def kfresh:List (V×V)→List (V×V)→Bool
  |_,[]=>true
  |a,p::r=>!(a.any fun q=>keyEq p.1 q.1)&&kfresh (a++[p]) r
noncomputable def dkeys (kv:List (V×V)):List V:=kv.map (·.1)
noncomputable def fget (n:String):List (String×V)→Option V
  | []=>none
  |(k,v)::r=>if n==k then some v else fget n r
noncomputable def fset (n:String)(v:V):List (String×V)→List (String×V)
  | []=>[(n,v)]
  |(k,v')::r=>if n==k then (k,v)::r else (k,v')::fset n v r
noncomputable def vI (v:V)(k:Int→Prop):Prop:=match v with |.int i=>k i |_=>False
noncomputable def vB (v:V)(k:List UInt8→Prop):Prop:=match v with |.bytes l=>k l |_=>False
noncomputable def vR (v:V)(k:Nat→Prop):Prop:=match v with |.ref a=>k a |_=>False
noncomputable def vS (v:V)(k:String→Prop):Prop:=match v with |.str x=>k x |_=>False
noncomputable def vT (v:V)(k:Bool→Prop):Prop:=match v with |.bool b=>k b |_=>False
noncomputable def vN (v:V)(p:Prop):Prop:=match v with |.none=>p |_=>False
noncomputable def V.isNone:V→Bool |.none=>true |_=>false
noncomputable def V.isBytes:V→Bool |.bytes _=>true |_=>false
noncomputable def V.flatN:V→Bool |.none |.int _ |.bytes _=>true |_=>false
noncomputable def leaf:V→Bool |.none |.bool _ |.int _ |.bytes _=>true |_=>false
noncomputable def flatEq (x u:V):Bool:=match x with
  |.none=>u.isNone
  |.int a=>(match u with |.int b=>a==b |_=>false)
  |.bytes a=>(match u with |.bytes b=>a==b |_=>false)
  |_=>false
noncomputable def flatIn (x u:V):Bool:=match x with
  |.none=>u.flatN
  |.int _=>u.isInt
  |.bytes _=>u.isBytes
  |_=>false
noncomputable def Sames (S:V→V→Prop):List V→List V→Prop
  | [],vs=>vs=[]
  |x::r,us=>∃y q,us=y::q∧S x y∧Sames S r q
inductive RefSame (σ:Sto)(S:V→V→Prop)(a b:Nat):Prop
  |tup (vs us:List V):σ a=some (.tup vs)→σ b=some (.tup us)→Sames S vs us→RefSame σ S a b
  |list (vs us:List V):σ a=some (.list false vs)→σ b=some (.list false us)→Sames S vs us→RefSame σ S a b
noncomputable def Same (σ:Sto):Nat→V→V→Prop
  |0,v,u=>v=u∧leaf v=true
  |n+1,v,u=>(v=u∧leaf v=true)∨vR v fun a=>vR u fun b=>RefSame σ (Same σ n) a b
noncomputable def dSame (kw:List (V×V)):List (V×V)→Prop
  | []=>True
  |(k,v)::r=>(dget k kw=some v∧leaf v=true)∧dSame kw r
noncomputable def clip (n:Nat)(i:Int):Nat:=(max 0 (min (if i<0 then i+n else i) n)).toNat
noncomputable def cut {α:Type}(l:List α)(lo hi:Option Int):List α:=
  let a:=match lo with |none=>0 |some i=>clip l.length i
  let b:=match hi with |none=>l.length |some i=>clip l.length i
  (l.drop a).take (b-a)
noncomputable def beN:Nat→Nat→List UInt8
  |0,_=>[]
  |k+1,x=>beN k (x/256)++[UInt8.ofNat (x % 256)]
noncomputable def valB (l:List UInt8):Nat:=l.foldl (fun a b=>a*256+b.toNat) 0
noncomputable def bitlen (n:Int):Nat:=if n=0 then 0 else Nat.log2 n.natAbs+1
theorem cnd {c:Bool}{A B A' B':Prop}(z:cond c A B)(f:A→A')(g:B→B'):cond c A' B':=by
  cases c with
  |true=>exact f z
  |false=>exact g z
noncomputable abbrev PX:=V→Sto→Prop
noncomputable abbrev PE:=Nat→Sto→Prop
noncomputable def isSeq (σ:Sto)(a:Nat)(vs:List V):Prop:=σ a=some (.tup vs)∨∃m,σ a=some (.list m vs)
noncomputable def alloc (o:O)(σ:Sto)(Q:PX):Prop:=∀a σ',σ a=none→Ext [] σ σ'→σ' a=some o→Q (.ref a) σ'
noncomputable def upd1 (a:Nat)(o:O)(σ:Sto)(Q:Sto→Prop):Prop:=∀σ',Ext [a] σ σ'→σ' a=some o→Q σ'
noncomputable def wpBin (op:BOp)(x y:V)(σ:Sto)(Q:PX):Prop:=match op with
  |.add=>(match x with
    |.int a=>vI y fun b=>Q (.int (a+b)) σ
    |.bytes a=>vB y fun b=>a.length+b.length≤16777216∧Q (.bytes (a++b)) σ
    |.ref a=>vR y fun b=>∃m vs m' us,σ a=some (.list m vs)∧σ b=some (.list m' us)∧vs.length+us.length≤1000∧alloc (.list false (vs++us)) σ Q
    |_=>False)
  |.mul=>(match x with
    |.int a=>vI y fun b=>b.natAbs<18446744073709551616∧Q (.int (a*b)) σ
    |.bytes a=>vI y fun b=>(a≠[]∧a.length≤16∧0≤b∧b≤1048576)∧Q (.bytes (List.replicate b.toNat a).flatten) σ
    |_=>False)
  |.sub=>vI x fun a=>vI y fun b=>Q (.int (a-b)) σ
  |.mod=>vI x fun a=>vI y fun b=>0<b∧Q (.int (a % b)) σ
  |.fdiv=>vI x fun a=>vI y fun b=>(0<b∧b<1073741824)∧Q (.int (a/b)) σ
  |.pow=>vI x fun a=>vI y fun b=>(0≤b∧b≤1000000∧a.natAbs<18446744073709551616)∧Q (.int (a^b.toNat)) σ
  |.shl=>vI x fun a=>vI y fun b=>(0≤b∧b≤1000000∧a.natAbs<18446744073709551616)∧Q (.int (a*2^b.toNat)) σ
inductive wpEq (x y:Nat)(σ:Sto)(Q:Bool→Prop):Prop
  |same:RefSame σ (Same σ 31) x y→Q true→wpEq x y σ Q
  |nil (m n:Bool) (vs:List V):σ x=some (.list m vs)→σ y=some (.list n [])→Q vs.isEmpty→wpEq x y σ Q
  |dict (m n:Bool) (kv kw:List (V×V)):σ x=some (.dict m kv)→σ y=some (.dict n kw)→strKeys kv=true→strKeys kw=true→kv.length=kw.length→dSame kw kv→Q true→wpEq x y σ Q
inductive wpIn (x b:V)(σ:Sto)(Q:Bool→Prop):Prop
  |seq (y:Nat) (vs:List V):b=.ref y→isSeq σ y vs→vs.all (flatIn x)=true→Q (vs.any (flatEq x))→wpIn x b σ Q
  |dict (y:Nat) (m:Bool) (kv:List (V×V)) (k:Int):b=.ref y→x=.int k→σ y=some (.dict m kv)→intKeys kv=true→Q (kv.any fun p=>keyEq x p.1)→wpIn x b σ Q
noncomputable def wpCmp (op:COp)(x y:V)(σ:Sto)(Q:Bool→Prop):Prop:=match op with
  |.eq=>(match x with
    |.int a=>vI y fun b=>Q (a==b)
    |.bytes a=>vB y fun b=>Q (a==b)
    |.ref a=>vR y fun b=>wpEq a b σ Q
    |_=>False)
  |.ne=>(match x with
    |.int a=>vI y fun b=>Q (a != b)
    |.bytes a=>vB y fun b=>Q (a != b)
    |.none=>vN y (Q false)
    |.ref a=>(match y with
      |.bytes _=>∃m vs,σ a=some (.list m vs)∧Q true
      |.ref b=>wpEq a b σ fun r=>Q (!r)
      |_=>False)
    |_=>False)
  |.lt=>vI x fun a=>vI y fun b=>Q (decide (a<b))
  |.le=>vI x fun a=>vI y fun b=>Q (decide (a≤b))
  |.gt=>vI x fun a=>vI y fun b=>Q (decide (a>b))
  |.ge=>vI x fun a=>vI y fun b=>Q (decide (a≥b))
  |.is=>vN y (x≠.unb∧Q x.isNone)
  |.isnt=>vN y (x≠.unb∧Q (!x.isNone))
  |.inn=>wpIn x y σ Q
  |.nin=>wpIn x y σ fun r=>Q (!r)
noncomputable def wpSub (x y:V)(σ:Sto)(Q:PX):Prop:=match x with
  |.bytes l=>vI y fun k=>(0≤k∧k<l.length∧l.length≤16777216)∧Q (.int (l.getD k.toNat 0).toNat) σ
  |.ref a=>(match y with
    |.int k=>(∃vs v,isSeq σ a vs∧(0≤k∧k≤1000000)∧vs[k.toNat]? = some v∧Q v σ)∨∃m kv v,σ a=some (.dict m kv)∧intKeys kv=true∧dget (.int k) kv=some v∧Q v σ
    |.str x=>∃m kv v,σ a=some (.dict m kv)∧strKeys kv=true∧dget (.str x) kv=some v∧Q v σ
    |_=>False)
  |_=>False
noncomputable def wpSlc (lo hi:Option Int)(x:V)(σ:Sto)(Q:PX):Prop:=match x with
  |.bytes l=>l.length≤16777216∧Q (.bytes (cut l lo hi)) σ
  |.ref a=>
      (∃vs i j,lo=some i∧hi=some j∧σ a=some (.tup vs)∧(i=2∧(j=5∨j=6)∧vs.length=14)∧alloc (.tup ((vs.drop 2).take (j-2).toNat)) σ Q)∨
       ∃m vs,σ a=some (.list m vs)∧vs.length≤1000∧alloc (.list false (cut vs lo hi)) σ Q
  |_=>False
noncomputable def slcB (lo hi:Bool)(vs:List V)(k:Option Int→Option Int→Prop):Prop:=match vs with
  | []=>cond lo False (cond hi False (k none none))
  | [u]=>vI u fun i=>cond lo (cond hi False (k (some i) none)) (cond hi (k none (some i)) False)
  | [u,w]=>vI u fun i=>vI w fun j=>cond lo (cond hi (k (some i) (some j)) False) False
  |_=>False
noncomputable def wpLen (x:V)(σ:Sto)(Q:PX):Prop:=match x with
  |.bytes l=>l.length≤16777216∧Q (.int l.length) σ
  |.ref a=>(∃vs,isSeq σ a vs∧vs.length≤1000000∧Q (.int vs.length) σ)∨∃m kv,σ a=some (.dict m kv)∧kv.length≤1000000∧intKeys kv=true∧Q (.int kv.length) σ
  |_=>False
noncomputable def wpIsi (t:Ty)(x:V)(σ:Sto)(Q:PX):Prop:=match x with
  |.ref a=>(match t with
    |.list=>∃m vs,σ a=some (.list m vs)∧Q (.bool true) σ
    |.bytes=>∃m vs,σ a=some (.list m vs)∧Q (.bool false) σ
    |.bool=>False)
  |.bytes _=>(match t with
    |.list=>Q (.bool false) σ
    |.bytes=>Q (.bool true) σ
    |.bool=>False)
  |.bool _=>(match t with
    |.bool=>Q (.bool true) σ
    |_=>False)
  |_=>False
noncomputable def wpByt (x:V)(σ:Sto)(Q:PX):Prop:=match x with
  |.bytes l=>l.length≤16777216∧Q (.bytes l) σ
  |.ref a=>∃m,∃ns:List Int,σ a=some (.list m (ns.map V.int))∧(∀n∈ns,0≤n∧n<256)∧ns.length≤1000000∧Q (.bytes (ns.map fun n=>UInt8.ofNat n.toNat)) σ
  |_=>False
noncomputable def attTab:List (Nat×List String):=[(70,["address", "topics", "data"]),(189,["kind", "is_good", "used", "bloom", "logs"]),(237,["number", "time", "beneficiary", "base_fee", "limit", "random", "hashes"]),
  (258,["parent", "beneficiary", "state_root", "transactions_root", "receipts_root", "withdrawals_root", "bloom", "number", "limit", "used", "time", "extra", "random", "base_fee"]),
  (279,["index", "validator", "address", "amount"]),(357,["known"])]
noncomputable def attrOK (C:Nat)(n:String):Bool:=match attTab.lookup C with
  |some l=>l.contains n
  |none=>false
noncomputable def wpAtt (n:String)(a:V)(σ:Sto)(Q:PX):Prop:=
  vR a fun x=>∃C dx fs v,σ x=some (.inst C dx)∧σ dx=some (.idict fs)∧attrOK C n=true∧fget n fs=some v∧Q v σ
noncomputable def wpToB (little:Bool)(x y:V)(σ:Sto)(Q:PX):Prop:=vI x fun x=>vI y fun k=>(0≤k∧k≤64∧0≤x∧x<256^k.toNat)∧Q (.bytes (cond little (beN k.toNat x.toNat).reverse (beN k.toNat x.toNat))) σ
noncomputable def wpJoin (x:V)(σ:Sto)(Q:PX):Prop:=vR x fun a=>∃m,∃ls:List (List UInt8),σ a=some (.list m (ls.map V.bytes))∧ls.length≤1000∧ls.flatten.length≤16777216∧Q (.bytes ls.flatten) σ
noncomputable def wpDcp (x:V)(σ:Sto)(Q:PX):Prop:=vR x fun a=>∃m kv,σ a=some (.dict m kv)∧strKeys kv=true∧kv≠[]∧kv.length≤1000∧alloc (.dict true kv) σ Q
noncomputable def wpFrz (x:V)(σ:Sto)(Q:PX):Prop:=vR x fun a=>(∃vs,σ a=some (.list true vs)∧upd1 a (.list false vs) σ fun σ'=>Q (.ref a) σ')∨∃m kv,σ a=some (.dict m kv)∧upd1 a (.dict false kv) σ fun σ'=>Q (.ref a) σ'
noncomputable def wpSet (x y v:V)(σ:Sto)(Q:Sto→Prop):Prop:=vR x fun a=>match y with
  |.int k=>(∃vs,σ a=some (.list true vs)∧0≤k∧k.toNat<vs.length∧k≤1000000∧upd1 a (.list true (vs.set k.toNat v)) σ Q)∨
      ∃kv,σ a=some (.dict true kv)∧intKeys kv=true∧kv.length≤1000∧upd1 a (.dict true (dset (.int k) v kv)) σ Q
  |.str x=>∃kv,σ a=some (.dict true kv)∧strKeys kv=true∧kv.length≤1000∧upd1 a (.dict true (dset (.str x) v kv)) σ Q
  |_=>False
noncomputable def wpSetA (n:String)(o v:V)(σ:Sto)(Q:Sto→Prop):Prop:=
  vR o fun x=>∃C dx fs,σ x=some (.inst C dx)∧σ dx=some (.idict fs)∧attrOK C n=true∧fs.length≤900∧upd1 dx (.idict (fset n v fs)) σ Q
noncomputable def wpApp (x v:V)(σ:Sto)(Q:Sto→Prop):Prop:=vR x fun a=>∃vs,σ a=some (.list true vs)∧vs.length≤1000000∧upd1 a (.list true (vs++[v])) σ Q
noncomputable def wpIter (v:V)(σ:Sto)(Q:List V→(Sto→Prop)→Prop):Prop:=match v with
  |.bytes l=>l.length≤16777216∧Q (l.map fun c=>.int c.toNat) (fun ω=>True)
  |.ref a=>(∃vs,σ a=some (.tup vs)∧vs.length≤1000000∧Q vs fun σ'=>σ' a=some (.tup vs))∨(∃m vs,σ a=some (.list m vs)∧vs.length≤1000000∧Q vs fun σ'=>∃m,σ' a=some (.list m vs))∨∃kv,σ a=some (.dict false kv)∧strKeys kv=true∧kv≠[]∧kv.length≤1000∧Q (dkeys kv) fun σ'=>σ' a=some (.dict false kv)
  |_=>False
noncomputable def wpRange (v:V)(Q:List V→(Sto→Prop)→Prop):Prop:=match v with
  |.int n=>0≤n∧n≤1000000∧Q ((List.range n.toNat).map fun (i:Nat)=>V.int (i:Int)) (fun ω=>True)
  |_=>False
noncomputable def wpCL (chk:Sto→Prop)(step:V→List V→Sto→(List V→Sto→Prop)→Prop):List V→List V→Sto→(List V→Sto→Prop)→Prop
  | [],acc,σ,Q=>chk σ∧Q acc σ
  |x::r,acc,σ,Q=>chk σ∧step x acc σ fun acc σ=>wpCL chk step r acc σ Q
noncomputable def wpFor (chk:Sto→Prop)(step:V→List V→Sto→(Fl→List V→Sto→Prop)→Prop):List V→List V→Sto→(Fl→List V→Sto→Prop)→Prop
  | [],μ,σ,Q=>chk σ∧Q .next μ σ
  |x::r,μ,σ,Q=>chk σ∧step x μ σ fun f μ σ=>match f with
    |.next |.cont=>wpFor chk step r μ σ Q
    |.brk=>Q .next μ σ
    |.ret v=>Q (.ret v) μ σ
noncomputable def wpWhl (test:List V→Sto→(Bool→Sto→Prop)→Prop)(body:List V→Sto→(Fl→List V→Sto→Prop)→Prop):Nat→List V→Sto→(Fl→List V→Sto→Prop)→Prop
  |0,_,_,_=>False
  |n+1,μ,σ,Q=>test μ σ fun b σ=>cond b (body μ σ (fun f μ σ=>match f with
      |.next |.cont=>wpWhl test body n μ σ Q
      |.brk=>Q .next μ σ
      |.ret v=>Q (.ret v) μ σ)) (Q .next μ σ)
noncomputable def bindC (k:Nat)(tupled:Bool)(v:V)(σ:Sto)(Q:List V→Prop):Prop:=
  if tupled then ∃a vs,v=.ref a∧σ a=some (.tup vs)∧vs.length=k∧Q vs else k=1∧Q [v]
noncomputable def clsAddr:Nat→Nat
  |0=>31 |1=>44 |2=>70 |3=>189 |4=>237 |5=>258 |6=>279 |7=>357
  |_=>0
noncomputable def methFn (C:Nat)(n:String):Option Nat:=if C=357 then (if n == "number" then some 70 else if n == "of" then some 71 else none) else none
structure Ch where
  f:Nat→List V→Sto→PX→PE→Prop
  i:Nat→List V→Sto→PX→PE→Prop
mutual
noncomputable def wpX (ch:Ch):X→List V→Sto→PX→PE→Prop
  |.loc i,μ,σ,Q,_=>∃v,μ[i]? = some v∧v≠.unb∧Q v σ
  |.glo _ v,_,σ,Q,_=>Q v σ
  |.cst v,_,σ,Q,_=>Q v σ
  |.bin op a b,μ,σ,Q,E=>wpX ch a μ σ (fun x σ=>wpX ch b μ σ (fun y σ=>wpBin op x y σ Q) E) E
  |.neg a,μ,σ,Q,E=>wpX ch a μ σ (fun x σ=>vI x fun i=>Q (.int (-i)) σ) E
  |.cmp a op b,μ,σ,Q,E=>wpX ch a μ σ (fun x σ=>wpX ch b μ σ (fun y σ=>wpCmp op x y σ fun r=>Q (.bool r) σ) E) E
  |.andv a b,μ,σ,Q,E=>wpX ch a μ σ (fun x σ=>vT x fun c=>cond c (wpX ch b μ σ Q E) (Q (.bool false) σ)) E
  |.ite c a b,μ,σ,Q,E=>wpT ch c μ σ (fun r σ=>cond r (wpX ch a μ σ Q E) (wpX ch b μ σ Q E)) E
  |.tup xs,μ,σ,Q,E=>wpXs ch xs μ σ (fun vs σ=>alloc (.tup vs) σ Q) E
  |.lst m xs,μ,σ,Q,E=>wpXs ch xs μ σ (fun vs σ=>alloc (.list m vs) σ Q) E
  |.dct m ks vs,μ,σ,Q,E=>wpXs ch ks μ σ (fun kk σ=>wpXs ch vs μ σ (fun ww σ=>kk.all V.isStr=true∧kfresh [] (kk.zip ww)=true∧alloc (.dict m (kk.zip ww)) σ Q) E) E
  |.sub a i,μ,σ,Q,E=>wpX ch a μ σ (fun x σ=>wpX ch i μ σ (fun y σ=>wpSub x y σ Q) E) E
  |.slc a lo hi xs,μ,σ,Q,E=>wpX ch a μ σ (fun x σ=>wpXs ch xs μ σ (fun vs σ=>slcB lo hi vs fun l h=>wpSlc l h x σ Q) E) E
  |.rev a,μ,σ,Q,E=>wpX ch a μ σ (fun x σ=>vR x fun b=>∃m vs,σ b=some (.list m vs)∧vs.length≤1000∧alloc (.list false vs.reverse) σ Q) E
  |.att a n,μ,σ,Q,E=>wpX ch a μ σ (fun x σ=>wpAtt n x σ Q) E
  |.fn f xs,μ,σ,Q,E=>wpXs ch xs μ σ (fun vs σ=>ch.f f vs σ Q E) E
  |.mk c xs,μ,σ,Q,E=>wpXs ch xs μ σ (fun vs σ=>∀dx a σ',σ dx=none→σ a=none→dx≠a→Ext [] σ σ'→σ' dx=some (.idict [])→σ' a=some (.inst (clsAddr c) dx)→ch.i c (.ref a::vs) σ' (fun r σ=>r=.none∧Q (.ref a) σ) E) E
  |.mth a n xs,μ,σ,Q,E=>wpX ch a μ σ (fun x σ=>vR x fun b=>∃C dx fs g,σ b=some (.inst C dx)∧σ dx=some (.idict fs)∧fget n fs=none∧methFn C n=some g∧wpXs ch xs μ σ (fun vs σ=>ch.f g (.ref b::vs) σ Q E) E) E
  |.len a,μ,σ,Q,E=>wpX ch a μ σ (fun x σ=>wpLen x σ Q) E
  |.isi a t,μ,σ,Q,E=>wpX ch a μ σ (fun x σ=>wpIsi t x σ Q) E
  |.byt a,μ,σ,Q,E=>wpX ch a μ σ (fun x σ=>wpByt x σ Q) E
  |.dcp a,μ,σ,Q,E=>wpX ch a μ σ (fun x σ=>wpDcp x σ Q) E
  |.toB a n l,μ,σ,Q,E=>wpX ch a μ σ (fun x σ=>vI x fun i=>wpX ch n μ σ (fun y σ=>wpToB l (.int i) y σ Q) E) E
  |.frB a,μ,σ,Q,E=>wpX ch a μ σ (fun x σ=>vB x fun l=>l.length≤1000000∧Q (.int (valB l)) σ) E
  |.bitl a,μ,σ,Q,E=>wpX ch a μ σ (fun x σ=>vI x fun i=>Q (.int (bitlen i)) σ) E
  |.join a,μ,σ,Q,E=>wpX ch a μ σ (fun x σ=>wpJoin x σ Q) E
  |.comp k tupled rng it ifs elt _ caps,μ,σ,Q,E=>wpX ch it μ σ (fun v σ=>
      (if rng then wpRange v else wpIter v σ) fun items chk=>
        wpCL chk (fun item acc σ kont=>bindC k tupled item σ fun ws=>
          wpAnd ch ifs (ws++caps.map fun i=>μ.getD i .unb) σ (fun b σ=>cond b (wpX ch elt (ws++caps.map fun i=>μ.getD i .unb) σ (fun r σ=>kont (acc++[r]) σ) E) (kont acc σ)) E) items [] σ
          fun rs σ=>alloc (.list false rs) σ Q) E
  |.comp2 it1 it2 elt _,μ,σ,Q,E=>wpX ch it1 μ σ (fun v σ=>wpIter v σ fun items chk=>
        wpCL chk (fun item acc σ kont=>wpX ch it2 [item,.unb] σ (fun v2 σ=>wpIter v2 σ fun items2 chk2=>
          wpCL chk2 (fun item2 acc σ kont2=>wpX ch elt [item,item2] σ (fun r σ=>acc.length≤1000000∧kont2 (acc++[r]) σ) E) items2 acc σ kont) E) items [] σ
          fun rs σ=>alloc (.list false rs) σ Q) E
noncomputable def wpXs (ch:Ch):List X→List V→Sto→(List V→Sto→Prop)→PE→Prop
  | [],_,σ,Q,_=>Q [] σ
  |x::r,μ,σ,Q,E=>wpX ch x μ σ (fun v σ=>wpXs ch r μ σ (fun vs σ=>Q (v::vs) σ) E) E
noncomputable def wpT (ch:Ch):T→List V→Sto→(Bool→Sto→Prop)→PE→Prop
  |.val x,μ,σ,Q,E=>wpX ch x μ σ (fun v σ=>vT v fun b=>Q b σ) E
  |.not t,μ,σ,Q,E=>wpT ch t μ σ (fun b σ=>Q (!b) σ) E
  |.and ts,μ,σ,Q,E=>wpAnd ch ts μ σ Q E
  |.or ts,μ,σ,Q,E=>wpOr ch ts μ σ Q E
  |.ite c a b,μ,σ,Q,E=>wpT ch c μ σ (fun r σ=>cond r (wpT ch a μ σ Q E) (wpT ch b μ σ Q E)) E
  |.cmp a ops xs,μ,σ,Q,E=>wpX ch a μ σ (fun v σ=>wpCh ch xs ops v μ σ Q E) E
noncomputable def wpAnd (ch:Ch):List T→List V→Sto→(Bool→Sto→Prop)→PE→Prop
  | [],_,σ,Q,_=>Q true σ
  |t::r,μ,σ,Q,E=>wpT ch t μ σ (fun b σ=>cond b (wpAnd ch r μ σ Q E) (Q false σ)) E
noncomputable def wpOr (ch:Ch):List T→List V→Sto→(Bool→Sto→Prop)→PE→Prop
  | [],_,σ,Q,_=>Q false σ
  |t::r,μ,σ,Q,E=>wpT ch t μ σ (fun b σ=>cond b (Q true σ) (wpOr ch r μ σ Q E)) E
noncomputable def wpCh (ch:Ch):List X→List COp→V→List V→Sto→(Bool→Sto→Prop)→PE→Prop
  | [x],[op],l,μ,σ,Q,E=>wpX ch x μ σ (fun v σ=>wpCmp op l v σ fun r=>Q r σ) E
  |x::r,op::ops,l,μ,σ,Q,E=>wpX ch x μ σ (fun v σ=>wpCmp op l v σ fun b=>cond b (wpCh ch r ops v μ σ Q E) (Q false σ)) E
  |_,_,_,_,_,_,_=>False
end
noncomputable abbrev PS:=Fl→List V→Sto→Prop
noncomputable abbrev PEs:=Nat→List V→Sto→Prop
mutual
noncomputable def wpTg (ch:Ch):Tg→V→List V→Sto→(List V→Sto→Prop)→PEs→Prop
  |.loc i,v,μ,σ,Q,_=>i<μ.length∧Q (μ.set i v) σ
  |.tup ts,v,μ,σ,Q,E=>∃a vs,v=.ref a∧isSeq σ a vs∧vs.length=ts.length∧wpTgs ch ts vs μ σ Q E
  |.sub o i,v,μ,σ,Q,E=>wpX ch o μ σ (fun x σ=>wpX ch i μ σ (fun y σ=>wpSet x y v σ fun σ=>Q μ σ) fun c σ=>E c μ σ) fun c σ=>E c μ σ
  |.att o n,v,μ,σ,Q,E=>wpX ch o μ σ (fun x σ=>wpSetA n x v σ fun σ=>Q μ σ) fun c σ=>E c μ σ
noncomputable def wpTgs (ch:Ch):List Tg→List V→List V→Sto→(List V→Sto→Prop)→PEs→Prop
  | [],[],μ,σ,Q,_=>Q μ σ
  |t::ts,v::vs,μ,σ,Q,E=>wpTg ch t v μ σ (fun μ σ=>wpTgs ch ts vs μ σ Q E) E
  |_,_,_,_,_,_=>False
end
noncomputable def exSub (c c':Nat):Bool:=c==c'||(c==1&&c'==0)
mutual
noncomputable def wpS (ch:Ch):S→List V→Sto→PS→PEs→Prop
  |.asg t x,μ,σ,Q,E=>wpX ch x μ σ (fun v σ=>wpTg ch t v μ σ (fun μ σ=>Q .next μ σ) E) fun c σ=>E c μ σ
  |.app o x,μ,σ,Q,E=>wpX ch o μ σ (fun a σ=>∃b vs,a=.ref b∧σ b=some (.list true vs)∧wpX ch x μ σ (fun v σ=>wpApp a v σ fun σ=>Q .next μ σ) fun c σ=>E c μ σ) fun c σ=>E c μ σ
  |.exp x,μ,σ,Q,E=>wpX ch x μ σ (fun v σ=>v.noRef=true∧Q .next μ σ) fun c σ=>E c μ σ
  |.ite c a b,μ,σ,Q,E=>wpT ch c μ σ (fun r σ=>cond r (wpSs ch a μ σ Q E) (wpSs ch b μ σ Q E)) fun c σ=>E c μ σ
  |.forV t it body,μ,σ,Q,E=>wpX ch it μ σ (fun v σ=>wpIter v σ fun items chk=>wpFor chk (fun item μ σ k=>wpTg ch t item μ σ (fun μ σ=>wpSs ch body μ σ k E) E) items μ σ Q) fun c σ=>E c μ σ
  |.forR i n body,μ,σ,Q,E=>wpX ch n μ σ (fun v σ=>wpRange v fun items chk=>wpFor chk (fun item μ σ k=>i<μ.length∧wpSs ch body (μ.set i item) σ k E) items μ σ Q) fun c σ=>E c μ σ
  |.forE i j x body,μ,σ,Q,E=>wpX ch x μ σ (fun v σ=>∃a vs,v=.ref a∧σ a=some (.tup vs)∧vs.length≤1000000∧
      wpFor (fun σ=>σ a=some (.tup vs)) (fun item μ σ k=>∃n v,item=.int n∧vs[n.toNat]? = some v∧i<μ.length∧j<μ.length∧wpSs ch body ((μ.set i item).set j v) σ k E)
        ((List.range vs.length).map fun (i:Nat)=>V.int (i:Int)) μ σ Q) fun c σ=>E c μ σ
  |.whl c body,μ,σ,Q,E=>∃n,wpWhl (fun μ σ k=>wpT ch c μ σ k fun c σ=>E c μ σ) (fun μ σ k=>wpSs ch body μ σ k E) n μ σ Q
  |.ret x,μ,σ,Q,E=>wpX ch x μ σ (fun v σ=>Q (.ret v) μ σ) fun c σ=>E c μ σ
  |.rse c _,μ,σ,_,E=>E c μ σ
  |.tryc body c h,μ,σ,Q,E=>wpSs ch body μ σ Q fun c' μ σ=>cond (exSub c' c) (match h with |.retNone=>Q (.ret .none) μ σ |.cont=>Q .cont μ σ) (E c' μ σ)
  |.cont,μ,σ,Q,_=>Q .cont μ σ
  |.pass,μ,σ,Q,_=>Q .next μ σ
  |.frz i,μ,σ,Q,_=>∃v,μ[i]? = some v∧wpFrz v σ fun ω σ=>Q .next μ σ
noncomputable def wpSs (ch:Ch):List S→List V→Sto→PS→PEs→Prop
  | [],μ,σ,Q,_=>Q .next μ σ
  |s::r,μ,σ,Q,E=>wpS ch s μ σ (fun f μ σ=>match f with |.next=>wpSs ch r μ σ Q E |f=>Q f μ σ) E
end
noncomputable def wpBody (ch:Ch)(d:Fd)(args:List V)(σ:Sto)(Q:PX)(E:PE):Prop:=
  args.length=d.np∧wpSs ch d.body (args++List.replicate (d.nm.length-d.np) V.unb) σ (fun f ω σ=>match f with |.ret v=>Q v σ |.next=>Q .none σ |_=>False) fun c ω σ=>E c σ
structure Code where
  f:Nat→Option Fd
  i:Nat→Option Fd
noncomputable def ch0:Ch:=⟨fun ω ω ω ω ω=>False,fun ω ω ω ω ω=>False⟩
noncomputable def wpI (C:Code)(c:Nat)(args:List V)(σ:Sto)(Q:PX)(E:PE):Prop:=∃d,C.i c=some d∧wpBody ch0 d args σ Q E
noncomputable def wpF (C:Code):Nat→Nat→List V→Sto→PX→PE→Prop
  |0,_,_,_,_,_=>False
  |n+1,f,args,σ,Q,E=>∃d,C.f f=some d∧wpBody ⟨wpF C n,wpI C⟩ d args σ Q E
end
end Internal
end
section
namespace Internal
open V
noncomputable section
noncomputable def c_bloom_octets:Fd:=⟨2,["bloom", "bits"],
 [.ite (.or [(.not (.cmp (.cst (.int 3)) [.le,.le] [(.loc 1),(.cst (.int 16))])),(.not (.cmp (.cst (.int 0)) [.le,.lt] [(.loc 0),(.bin .shl (.cst (.int 1)) (.bin .shl (.cst (.int 1)) (.loc 1)))]))])
 [.rse 0 "a bloom too wide"]
 [],
 .ret (.toB (.loc 0) (.bin .fdiv (.bin .shl (.cst (.int 1)) (.loc 1)) (.cst (.int 8))) false)]⟩
noncomputable def c_Log_init:Fd:=⟨4,["self", "address", "topics", "data"],
 [.asg (.att (.loc 0) "address") (.loc 1),
 .asg (.att (.loc 0) "topics") (.loc 2),
 .asg (.att (.loc 0) "data") (.loc 3)]⟩
noncomputable def c_number_octets:Fd:=⟨1,["n"],
 [.ite (.cmp (.loc 0) [.lt] [(.cst (.int 0))])
 [.rse 1 "a number below 0"]
 [],
 .ret (.toB (.loc 0) (.bin .fdiv (.bin .add (.bitl (.loc 0)) (.cst (.int 7))) (.cst (.int 8))) false)]⟩
noncomputable def c_octets_number:Fd:=⟨1,["octets"],
 [.ite (.cmp (.slc (.loc 0) false true [(.cst (.int 1))]) [.eq] [(.cst (.bytes [0]))])
 [.rse 1 "a nought ahead of a number"]
 [],
 .ret (.frB (.loc 0))]⟩
noncomputable def c_head:Fd:=⟨2,["low", "size", "told"],
 [.ite (.cmp (.loc 1) [.le] [(.glo "SHORT" (.int 55))])
 [.ret (.byt (.lst false [(.bin .add (.loc 0) (.loc 1))]))]
 [],
 .asg (.loc 2) (.fn 1 [(.loc 1)]),
 .ret (.bin .add (.byt (.lst false [(.bin .add (.bin .add (.loc 0) (.glo "SHORT" (.int 55))) (.len (.loc 2)))])) (.loc 2))]⟩
noncomputable def c_encoded_at:Fd:=⟨2,["item", "depth", "body", "part"],
 [.ite (.cmp (.loc 1) [.gt] [(.glo "DEEPEST" (.int 60))])
 [.rse 1 "lists too deep"]
 [],
 .ite (.val (.isi (.loc 0) .list))
 [.asg (.loc 2) (.cst (.bytes [])),
 .forV (.loc 3) (.loc 0)
 [.asg (.loc 2) (.bin .add (.loc 2) (.fn 4 [(.loc 3),(.bin .add (.loc 1) (.cst (.int 1)))]))],
 .ret (.bin .add (.fn 3 [(.glo "LIST" (.int 192)),(.len (.loc 2))]) (.loc 2))]
 [],
 .ite (.not (.val (.isi (.loc 0) .bytes)))
 [.rse 1 "neither octets nor a list"]
 [],
 .ite (.and [(.cmp (.len (.loc 0)) [.eq] [(.cst (.int 1))]),(.cmp (.sub (.loc 0) (.cst (.int 0))) [.lt] [(.glo "OCTETS_rlp" (.int 128))])])
 [.ret (.loc 0)]
 [],
 .ret (.bin .add (.fn 3 [(.glo "OCTETS_rlp" (.int 128)),(.len (.loc 0))]) (.loc 0))]⟩
noncomputable def c_encoded:Fd:=⟨1,["item"],
 [.ret (.fn 4 [(.loc 0),(.cst (.int 0))])]⟩
noncomputable def c_read_size:Fd:=⟨3,["octets", "place", "many", "size"],
 [.ite (.cmp (.bin .add (.loc 1) (.loc 2)) [.gt] [(.len (.loc 0))])
 [.rse 1 "a size is cut off"]
 [],
 .asg (.loc 3) (.fn 2 [(.slc (.loc 0) true true [(.loc 1),(.bin .add (.loc 1) (.loc 2))])]),
 .ite (.cmp (.loc 3) [.le] [(.glo "SHORT" (.int 55))])
 [.rse 1 "a short size told long"]
 [],
 .ret (.loc 3)]⟩
noncomputable def c_read_head:Fd:=⟨2,["octets", "place", "first", "is_list", "size", "start", "many"],
 [.ite (.cmp (.loc 1) [.ge] [(.len (.loc 0))])
 [.rse 1 "an item is cut off"]
 [],
 .asg (.loc 2) (.sub (.loc 0) (.loc 1)),
 .ite (.cmp (.loc 2) [.lt] [(.glo "OCTETS_rlp" (.int 128))])
 [.ret (.tup [(.cst (.bool false)),(.loc 1),(.bin .add (.loc 1) (.cst (.int 1)))])]
 [],
 .asg (.loc 3) (.cmp (.loc 2) .ge (.glo "LIST" (.int 192))),
 .asg (.tup [(.loc 4),(.loc 5)]) (.tup [(.bin .sub (.loc 2) (.ite (.val (.loc 3)) (.glo "LIST" (.int 192)) (.glo "OCTETS_rlp" (.int 128)))),(.bin .add (.loc 1) (.cst (.int 1)))]),
 .ite (.cmp (.loc 4) [.gt] [(.glo "SHORT" (.int 55))])
 [.asg (.loc 6) (.bin .sub (.loc 4) (.glo "SHORT" (.int 55))),
 .asg (.tup [(.loc 4),(.loc 5)]) (.tup [(.fn 6 [(.loc 0),(.loc 5),(.loc 6)]),(.bin .add (.loc 5) (.loc 6))])]
 [],
 .ite (.cmp (.bin .add (.loc 5) (.loc 4)) [.gt] [(.len (.loc 0))])
 [.rse 1 "an item is cut off"]
 [],
 .ite (.and [(.not (.val (.loc 3))),(.cmp (.loc 4) [.eq] [(.cst (.int 1))]),(.cmp (.loc 5) [.eq] [(.bin .add (.loc 1) (.cst (.int 1)))]),(.cmp (.sub (.loc 0) (.loc 5)) [.lt] [(.glo "OCTETS_rlp" (.int 128))])])
 [.rse 1 "an octet that needs no head"]
 [],
 .ret (.tup [(.loc 3),(.loc 5),(.bin .add (.loc 5) (.loc 4))])]⟩
noncomputable def c_read_item:Fd:=⟨3,["octets", "place", "depth", "is_list", "start", "end", "found", "item"],
 [.ite (.cmp (.loc 2) [.gt] [(.glo "DEEPEST" (.int 60))])
 [.rse 1 "lists too deep"]
 [],
 .asg (.tup [(.loc 3),(.loc 4),(.loc 5)]) (.fn 7 [(.loc 0),(.loc 1)]),
 .ite (.not (.val (.loc 3)))
 [.ret (.tup [(.slc (.loc 0) true true [(.loc 4),(.loc 5)]),(.loc 5)])]
 [],
 .asg (.loc 6) (.lst true []),
 .whl (.cmp (.loc 4) [.lt] [(.loc 5)])
 [.asg (.tup [(.loc 7),(.loc 4)]) (.fn 8 [(.loc 0),(.loc 4),(.bin .add (.loc 2) (.cst (.int 1)))]),
 .app (.loc 6) (.loc 7)],
 .ite (.cmp (.loc 4) [.ne] [(.loc 5)])
 [.rse 1 "an item goes past its list"]
 [],
 .frz 6,
 .ret (.tup [(.loc 6),(.loc 5)])]⟩
noncomputable def c_decoded:Fd:=⟨1,["octets", "item", "end"],
 [.asg (.tup [(.loc 1),(.loc 2)]) (.fn 8 [(.loc 0),(.cst (.int 0)),(.cst (.int 0))]),
 .ite (.cmp (.loc 2) [.ne] [(.len (.loc 0))])
 [.rse 1 "octets behind the item"]
 [],
 .ret (.loc 1)]⟩
noncomputable def c_led:Fd:=⟨1,["n"],
 [.ret (.bin .mod (.loc 0) (.glo "WORD" (.int 115792089237316195423570985008687907853269984665640564039457584007913129639936)))]⟩
noncomputable def c_word_octets:Fd:=⟨1,["w"],
 [.ret (.toB (.fn 10 [(.loc 0)]) (.glo "OCTETS_words" (.int 32)) false)]⟩
noncomputable def c_octets_word:Fd:=⟨1,["octets"],
 [.ret (.frB (.slc (.loc 0) true false [(.neg (.glo "OCTETS_words" (.int 32)))]))]⟩
noncomputable def c_read_number:Fd:=⟨2,["item", "bound", "number"],
 [.ite (.val (.isi (.loc 0) .list))
 [.rse 1 "a list for a number"]
 [],
 .ite (.cmp (.len (.loc 0)) [.gt] [(.cst (.int 34))])
 [.rse 1 "a number too wide"]
 [],
 .asg (.loc 2) (.fn 2 [(.loc 0)]),
 .ite (.cmp (.loc 2) [.ge] [(.loc 1)])
 [.rse 1 "a number too wide"]
 [],
 .ret (.loc 2)]⟩
noncomputable def c_read_fixed:Fd:=⟨2,["item", "size"],
 [.ite (.or [(.val (.isi (.loc 0) .list)),(.cmp (.len (.loc 0)) [.ne] [(.loc 1)])])
 [.rse 1 "octets of another size"]
 [],
 .ret (.fn 12 [(.loc 0)])]⟩
noncomputable def c_Receipt_init:Fd:=⟨6,["self", "kind", "is_good", "used", "bloom", "logs"],
 [.asg (.att (.loc 0) "kind") (.loc 1),
 .asg (.att (.loc 0) "is_good") (.loc 2),
 .asg (.att (.loc 0) "used") (.loc 3),
 .asg (.att (.loc 0) "bloom") (.loc 4),
 .asg (.att (.loc 0) "logs") (.loc 5)]⟩
noncomputable def c_log_item:Fd:=⟨1,["log"],
 [.ite (.or [(.not (.cmp (.cst (.int 0)) [.le,.lt] [(.att (.loc 0) "address"),(.glo "ADDRESSES" (.int 1461501637330902918203684832716283019655932542976))])),(.cmp (.len (.att (.loc 0) "topics")) [.gt] [(.glo "MOST_TOPICS" (.int 4))]),(.not (.val (.isi (.att (.loc 0) "data") .bytes)))])
 [.rse 1 "no log"]
 [],
 .ite (.cmp (.comp 1 false false (.att (.loc 0) "topics") [(.not (.cmp (.cst (.int 0)) [.le,.lt] [(.loc 0),(.glo "WORD" (.int 115792089237316195423570985008687907853269984665640564039457584007913129639936))]))] (.loc 0) ["topic"] []) [.ne] [(.lst false [])])
 [.rse 1 "a topic too wide"]
 [],
 .ret (.lst false [(.slc (.fn 11 [(.att (.loc 0) "address")]) true false [(.cst (.int 12))]),(.comp 1 false false (.att (.loc 0) "topics") [] (.fn 11 [(.loc 0)]) ["topic"] []),(.att (.loc 0) "data")])]⟩
noncomputable def c_receipt_octets:Fd:=⟨2,["receipt", "bits", "ahead", "word", "logs"],
 [.ite (.or [(.cmp (.att (.loc 0) "kind") [.nin] [(.tup [(.cst (.int 0)),(.cst (.int 1)),(.cst (.int 2))])]),(.not (.cmp (.cst (.int 0)) [.le,.lt] [(.att (.loc 0) "used"),(.glo "LONG" (.int 18446744073709551616))]))])
 [.rse 1 "no receipt"]
 [],
 .asg (.loc 2) (.ite (.cmp (.att (.loc 0) "kind") [.eq] [(.cst (.int 0))]) (.cst (.bytes [])) (.byt (.lst false [(.att (.loc 0) "kind")]))),
 .asg (.loc 3) (.fn 1 [(.ite (.val (.att (.loc 0) "is_good")) (.cst (.int 1)) (.cst (.int 0)))]),
 .asg (.loc 4) (.comp 1 false false (.att (.loc 0) "logs") [] (.fn 15 [(.loc 0)]) ["log"] []),
 .ret (.bin .add (.loc 2) (.fn 5 [(.lst false [(.loc 3),(.fn 1 [(.att (.loc 0) "used")]),(.fn 0 [(.att (.loc 0) "bloom"),(.loc 1)]),(.loc 4)])]))]⟩
noncomputable def c_read_log:Fd:=⟨1,["item"],
 [.ite (.or [(.not (.val (.isi (.loc 0) .list))),(.cmp (.len (.loc 0)) [.ne] [(.cst (.int 3))]),(.not (.val (.isi (.sub (.loc 0) (.cst (.int 1))) .list))),(.val (.isi (.sub (.loc 0) (.cst (.int 2))) .list))])
 [.rse 1 "no log"]
 [],
 .ite (.cmp (.len (.sub (.loc 0) (.cst (.int 1)))) [.gt] [(.glo "MOST_TOPICS" (.int 4))])
 [.rse 1 "topics too many"]
 [],
 .ret (.mk 2 [(.fn 14 [(.sub (.loc 0) (.cst (.int 0))),(.cst (.int 20))]),(.comp 1 false false (.sub (.loc 0) (.cst (.int 1))) [] (.fn 14 [(.loc 0),(.cst (.int 32))]) ["topic"] []),(.sub (.loc 0) (.cst (.int 2)))])]⟩
noncomputable def c_read_bloom:Fd:=⟨2,["item", "bits"],
 [.ite (.or [(.val (.isi (.loc 0) .list)),(.cmp (.bin .mul (.len (.loc 0)) (.cst (.int 8))) [.ne] [(.bin .shl (.cst (.int 1)) (.loc 1))])])
 [.rse 1 "no bloom"]
 [],
 .ret (.frB (.loc 0))]⟩
noncomputable def c_read_receipt:Fd:=⟨2,["octets", "bits", "kind", "item", "word", "used"],
 [.asg (.loc 2) (.ite (.cmp (.slc (.loc 0) false true [(.cst (.int 1))]) [.inn] [(.tup [(.cst (.bytes [1])),(.cst (.bytes [2]))])]) (.sub (.loc 0) (.cst (.int 0))) (.cst (.int 0))),
 .asg (.loc 3) (.fn 9 [(.ite (.cmp (.loc 2) [.gt] [(.cst (.int 0))]) (.slc (.loc 0) true false [(.cst (.int 1))]) (.loc 0))]),
 .ite (.or [(.not (.val (.isi (.loc 3) .list))),(.cmp (.len (.loc 3)) [.ne] [(.cst (.int 4))]),(.not (.val (.isi (.sub (.loc 3) (.cst (.int 3))) .list)))])
 [.rse 1 "no receipt"]
 [],
 .asg (.tup [(.loc 4),(.loc 5)]) (.tup [(.fn 13 [(.sub (.loc 3) (.cst (.int 0))),(.cst (.int 2))]),(.fn 13 [(.sub (.loc 3) (.cst (.int 1))),(.glo "LONG" (.int 18446744073709551616))])]),
 .ret (.mk 3 [(.loc 2),(.cmp (.loc 4) .eq (.cst (.int 1))),(.loc 5),(.fn 18 [(.sub (.loc 3) (.cst (.int 2))),(.loc 1)]),(.comp 1 false false (.sub (.loc 3) (.cst (.int 3))) [] (.fn 17 [(.loc 0)]) ["log"] [])])]⟩
noncomputable def c_BlockInfo_init:Fd:=⟨8,["self", "number", "time", "beneficiary", "base_fee", "limit", "random", "hashes"],
 [.asg (.att (.loc 0) "number") (.loc 1),
 .asg (.att (.loc 0) "time") (.loc 2),
 .asg (.att (.loc 0) "beneficiary") (.loc 3),
 .asg (.att (.loc 0) "base_fee") (.loc 4),
 .asg (.att (.loc 0) "limit") (.loc 5),
 .asg (.att (.loc 0) "random") (.loc 6),
 .asg (.att (.loc 0) "hashes") (.loc 7)]⟩
noncomputable def c_Header_init:Fd:=⟨7,["self", "parent", "info", "used", "extra", "bloom", "roots"],
 [.asg (.att (.loc 0) "parent") (.loc 1),
 .asg (.att (.loc 0) "beneficiary") (.att (.loc 2) "beneficiary"),
 .asg (.att (.loc 0) "state_root") (.sub (.loc 6) (.cst (.int 0))),
 .asg (.att (.loc 0) "transactions_root") (.sub (.loc 6) (.cst (.int 1))),
 .asg (.att (.loc 0) "receipts_root") (.sub (.loc 6) (.cst (.int 2))),
 .asg (.att (.loc 0) "withdrawals_root") (.sub (.loc 6) (.cst (.int 3))),
 .asg (.att (.loc 0) "bloom") (.loc 5),
 .asg (.att (.loc 0) "number") (.att (.loc 2) "number"),
 .asg (.att (.loc 0) "limit") (.att (.loc 2) "limit"),
 .asg (.att (.loc 0) "used") (.loc 3),
 .asg (.att (.loc 0) "time") (.att (.loc 2) "time"),
 .asg (.att (.loc 0) "extra") (.loc 4),
 .asg (.att (.loc 0) "random") (.att (.loc 2) "random"),
 .asg (.att (.loc 0) "base_fee") (.att (.loc 2) "base_fee")]⟩
noncomputable def c_Withdrawal_init:Fd:=⟨5,["self", "index", "validator", "address", "amount"],
 [.asg (.att (.loc 0) "index") (.loc 1),
 .asg (.att (.loc 0) "validator") (.loc 2),
 .asg (.att (.loc 0) "address") (.loc 3),
 .asg (.att (.loc 0) "amount") (.loc 4)]⟩
noncomputable def c_need_form:Fd:=⟨1,["header", "number", "roots"],
 [.forV (.loc 1) (.tup [(.att (.loc 0) "number"),(.att (.loc 0) "limit"),(.att (.loc 0) "used"),(.att (.loc 0) "time")])
 [.ite (.not (.cmp (.cst (.int 0)) [.le,.lt] [(.loc 1),(.glo "LONG" (.int 18446744073709551616))]))
 [.rse 1 "a number too wide"]
 []],
 .ite (.or [(.not (.cmp (.cst (.int 0)) [.le,.lt] [(.att (.loc 0) "base_fee"),(.glo "WORD" (.int 115792089237316195423570985008687907853269984665640564039457584007913129639936))])),(.not (.cmp (.cst (.int 0)) [.le,.lt] [(.att (.loc 0) "random"),(.glo "WORD" (.int 115792089237316195423570985008687907853269984665640564039457584007913129639936))])),(.not (.cmp (.cst (.int 0)) [.le,.lt] [(.att (.loc 0) "beneficiary"),(.glo "ADDRESSES" (.int 1461501637330902918203684832716283019655932542976))]))])
 [.rse 1 "a number too wide"]
 [],
 .asg (.loc 2) (.tup [(.att (.loc 0) "parent"),(.att (.loc 0) "state_root"),(.att (.loc 0) "transactions_root"),(.att (.loc 0) "receipts_root"),(.att (.loc 0) "withdrawals_root")]),
 .ite (.or [(.cmp (.comp 1 false false (.loc 2) [(.cmp (.len (.loc 0)) [.ne] [(.cst (.int 32))])] (.loc 0) ["root"] []) [.ne] [(.lst false [])]),(.cmp (.len (.att (.loc 0) "extra")) [.gt] [(.glo "MOST_EXTRA" (.int 32))])])
 [.rse 1 "octets of another size"]
 []]⟩
noncomputable def c_no_uncles:Fd:=⟨1,["digest"],
 [.ret (.mth (.loc 0) "of" [(.fn 5 [(.lst false [])])])]⟩
noncomputable def c_header_octets:Fd:=⟨3,["header", "digest", "bits", "numbers", "roots", "ahead", "behind"],
 [.exp (.fn 20 [(.loc 0)]),
 .asg (.loc 3) (.comp 1 false false (.tup [(.cst (.int 0)),(.att (.loc 0) "number"),(.att (.loc 0) "limit"),(.att (.loc 0) "used"),(.att (.loc 0) "time")]) [] (.fn 1 [(.loc 0)]) ["n"] []),
 .asg (.loc 4) (.lst false [(.att (.loc 0) "state_root"),(.att (.loc 0) "transactions_root"),(.att (.loc 0) "receipts_root")]),
 .asg (.loc 5) (.bin .add (.lst false [(.att (.loc 0) "parent"),(.fn 21 [(.loc 1)]),(.slc (.fn 11 [(.att (.loc 0) "beneficiary")]) true false [(.cst (.int 12))])]) (.loc 4)),
 .asg (.loc 6) (.lst false [(.att (.loc 0) "extra"),(.fn 11 [(.att (.loc 0) "random")]),(.glo "NO_NONCE" (.bytes [0,0,0,0,0,0,0,0])),(.fn 1 [(.att (.loc 0) "base_fee")])]),
 .ret (.fn 5 [(.bin .add (.bin .add (.bin .add (.bin .add (.loc 5) (.lst false [(.fn 0 [(.att (.loc 0) "bloom"),(.loc 2)])])) (.loc 3)) (.loc 6)) (.lst false [(.att (.loc 0) "withdrawals_root")]))])]⟩
noncomputable def c_header_hash:Fd:=⟨3,["header", "digest", "bits"],
 [.ret (.mth (.loc 1) "of" [(.fn 22 [(.loc 0),(.loc 1),(.loc 2)])])]⟩
noncomputable def c_read_root:Fd:=⟨1,["item"],
 [.ite (.or [(.val (.isi (.loc 0) .list)),(.cmp (.len (.loc 0)) [.ne] [(.cst (.int 32))])])
 [.rse 1 "octets of another size"]
 [],
 .ret (.loc 0)]⟩
noncomputable def c_read_header:Fd:=⟨3,["octets", "digest", "bits", "rows", "number", "limit", "used", "time", "fee", "info", "roots"],
 [.asg (.loc 3) (.fn 9 [(.loc 0)]),
 .ite (.or [(.not (.val (.isi (.loc 3) .list))),(.cmp (.len (.loc 3)) [.ne] [(.cst (.int 17))])])
 [.rse 1 "no header"]
 [],
 .ite (.or [(.cmp (.sub (.loc 3) (.cst (.int 1))) [.ne] [(.fn 21 [(.loc 1)])]),(.cmp (.sub (.loc 3) (.cst (.int 7))) [.ne] [(.cst (.bytes []))]),(.cmp (.sub (.loc 3) (.cst (.int 14))) [.ne] [(.glo "NO_NONCE" (.bytes [0,0,0,0,0,0,0,0]))])])
 [.rse 1 "a header of an older kind"]
 [],
 .asg (.tup [(.loc 4),(.loc 5),(.loc 6),(.loc 7)]) (.comp 1 false false (.slc (.loc 3) true true [(.cst (.int 8)),(.cst (.int 12))]) [] (.fn 13 [(.loc 0),(.glo "LONG" (.int 18446744073709551616))]) ["row"] []),
 .ite (.or [(.val (.isi (.sub (.loc 3) (.cst (.int 12))) .list)),(.cmp (.len (.sub (.loc 3) (.cst (.int 12)))) [.gt] [(.glo "MOST_EXTRA" (.int 32))])])
 [.rse 1 "extra octets too many"]
 [],
 .asg (.loc 8) (.fn 13 [(.sub (.loc 3) (.cst (.int 15))),(.glo "WORD" (.int 115792089237316195423570985008687907853269984665640564039457584007913129639936))]),
 .asg (.loc 9) (.mk 4 [(.loc 4),(.loc 7),(.fn 14 [(.sub (.loc 3) (.cst (.int 2))),(.cst (.int 20))]),(.loc 8),(.loc 5),(.fn 14 [(.sub (.loc 3) (.cst (.int 13))),(.cst (.int 32))]),(.dct false [] [])]),
 .asg (.loc 10) (.comp 1 false false (.tup [(.sub (.loc 3) (.cst (.int 3))),(.sub (.loc 3) (.cst (.int 4))),(.sub (.loc 3) (.cst (.int 5))),(.sub (.loc 3) (.cst (.int 16)))]) [] (.fn 24 [(.loc 0)]) ["row"] []),
 .ret (.mk 5 [(.fn 24 [(.sub (.loc 3) (.cst (.int 0)))]),(.loc 9),(.loc 6),(.sub (.loc 3) (.cst (.int 12))),(.fn 18 [(.sub (.loc 3) (.cst (.int 6))),(.loc 2)]),(.loc 10)])]⟩
noncomputable def c_withdrawal_octets:Fd:=⟨1,["withdrawal", "number", "ahead"],
 [.forV (.loc 1) (.tup [(.att (.loc 0) "index"),(.att (.loc 0) "validator"),(.att (.loc 0) "amount")])
 [.ite (.not (.cmp (.cst (.int 0)) [.le,.lt] [(.loc 1),(.glo "LONG" (.int 18446744073709551616))]))
 [.rse 1 "a number too wide"]
 []],
 .ite (.not (.cmp (.cst (.int 0)) [.le,.lt] [(.att (.loc 0) "address"),(.glo "ADDRESSES" (.int 1461501637330902918203684832716283019655932542976))]))
 [.rse 1 "no address"]
 [],
 .asg (.loc 2) (.lst false [(.fn 1 [(.att (.loc 0) "index")]),(.fn 1 [(.att (.loc 0) "validator")])]),
 .ret (.fn 5 [(.bin .add (.loc 2) (.lst false [(.slc (.fn 11 [(.att (.loc 0) "address")]) true false [(.cst (.int 12))]),(.fn 1 [(.att (.loc 0) "amount")])]))])]⟩
noncomputable def c_Numbered_init:Fd:=⟨1,["self"],
 [.asg (.att (.loc 0) "known") (.dct true [] [])]⟩
noncomputable def c_Numbered_number:Fd:=⟨2,["self", "octets", "key"],
 [.asg (.loc 2) (.frB (.bin .add (.cst (.bytes [1])) (.byt (.loc 1)))),
 .ite (.cmp (.loc 2) [.nin] [(.att (.loc 0) "known")])
 [.asg (.sub (.att (.loc 0) "known") (.loc 2)) (.bin .add (.len (.att (.loc 0) "known")) (.cst (.int 1)))]
 [],
 .ret (.sub (.att (.loc 0) "known") (.loc 2))]⟩
noncomputable def c_Numbered_of:Fd:=⟨2,["self", "octets", "number", "first", "middle"],
 [.asg (.loc 2) (.mth (.loc 0) "number" [(.loc 1)]),
 .asg (.loc 3) (.toB (.loc 2) (.cst (.int 4)) true),
 .asg (.loc 4) (.toB (.bin .mod (.bin .mul (.loc 2) (.glo "SPREAD" (.int 281479271743489))) (.bin .shl (.cst (.int 1)) (.cst (.int 64)))) (.cst (.int 8)) false),
 .ret (.bin .add (.bin .add (.loc 3) (.loc 4)) (.toB (.bin .add (.glo "LEAST_ADDRESS" (.int 605153021707326989568713251046585937826284568576)) (.loc 2)) (.cst (.int 20)) false))]⟩
noncomputable def c__law_short:Fd:=⟨0,[],
 [.ret (.tup [(.cst (.int 0)),(.cst (.int 1)),(.cst (.int 128)),(.bin .sub (.bin .pow (.cst (.int 2)) (.cst (.int 64))) (.cst (.int 1)))])]⟩
noncomputable def c__law_wide:Fd:=⟨0,[],
 [.ret (.tup [(.cst (.int 0)),(.cst (.int 1)),(.bin .pow (.cst (.int 10)) (.cst (.int 9))),(.bin .sub (.bin .pow (.cst (.int 2)) (.cst (.int 256))) (.cst (.int 1)))])]⟩
noncomputable def c__law_homes:Fd:=⟨0,[],
 [.ret (.tup [(.cst (.int 0)),(.cst (.int 4097)),(.bin .sub (.bin .pow (.cst (.int 2)) (.cst (.int 160))) (.cst (.int 1)))])]⟩
noncomputable def c__law_draw:Fd:=⟨2,["well", "law_size", "given"],
 [.ite (.cmp (.sub (.loc 0) (.cst (.int 1))) [.lt] [(.len (.sub (.loc 0) (.cst (.int 0))))])
 [.asg (.loc 2) (.sub (.sub (.loc 0) (.cst (.int 0))) (.sub (.loc 0) (.cst (.int 1)))),
 .asg (.sub (.loc 0) (.cst (.int 1))) (.bin .add (.sub (.loc 0) (.cst (.int 1))) (.cst (.int 1))),
 .asg (.sub (.loc 0) (.cst (.int 2))) (.bin .mod (.bin .add (.bin .add (.bin .mul (.sub (.loc 0) (.cst (.int 2))) (.cst (.int 31))) (.loc 2)) (.cst (.int 7))) (.cst (.int 997))),
 .ret (.bin .mod (.loc 2) (.loc 1))]
 [],
 .asg (.sub (.loc 0) (.cst (.int 2))) (.bin .mod (.bin .add (.bin .mul (.sub (.loc 0) (.cst (.int 2))) (.cst (.int 31))) (.cst (.int 7))) (.cst (.int 997))),
 .ret (.bin .mod (.sub (.loc 0) (.cst (.int 2))) (.loc 1))]⟩
noncomputable def c__law_pick:Fd:=⟨2,["well", "some"],
 [.ret (.sub (.loc 1) (.fn 30 [(.loc 0),(.len (.loc 1))]))]⟩
noncomputable def c__law_seeded:Fd:=⟨2,["well", "law_many", "law_seed"],
 [.asg (.loc 2) (.fn 30 [(.loc 0),(.cst (.int 256))]),
 .ret (.byt (.comp 1 false true (.loc 1) [] (.bin .mod (.bin .add (.loc 1) (.bin .mul (.cst (.int 37)) (.loc 0))) (.cst (.int 256))) ["at", "law_seed"] [2]))]⟩
noncomputable def c__law_receipt:Fd:=⟨2,["well", "law_bits", "law_front", "law_bloom", "law_logs", "turn", "law_home", "law_topics"],
 [.asg (.loc 2) (.lst false [(.fn 30 [(.loc 0),(.cst (.int 3))]),(.cmp (.fn 30 [(.loc 0),(.cst (.int 2))]) .eq (.cst (.int 1))),(.fn 31 [(.loc 0),(.fn 27 [])])]),
 .asg (.loc 3) (.sub (.tup [(.cst (.int 0)),(.cst (.int 1)),(.bin .sub (.bin .pow (.cst (.int 2)) (.bin .pow (.cst (.int 2)) (.loc 1))) (.cst (.int 1)))]) (.fn 30 [(.loc 0),(.cst (.int 3))])),
 .asg (.loc 4) (.lst true []),
 .forR 5 (.fn 30 [(.loc 0),(.cst (.int 4))])
 [.asg (.loc 6) (.fn 31 [(.loc 0),(.fn 29 [])]),
 .asg (.loc 7) (.comp 1 false true (.fn 30 [(.loc 0),(.cst (.int 5))]) [] (.fn 31 [(.loc 1),(.fn 28 [])]) ["lap", "well"] [0]),
 .app (.loc 4) (.tup [(.loc 6),(.loc 7),(.fn 32 [(.loc 0),(.fn 31 [(.loc 0),(.glo "_law_sizes" (.ref 383))])])])],
 .frz 4,
 .ret (.bin .add (.loc 2) (.lst false [(.loc 3),(.loc 4)]))]⟩
noncomputable def c__law_head:Fd:=⟨2,["well", "law_bits", "law_found", "law_name"],
 [.asg (.loc 2) (.dct true [(.cst (.str "bloom")),(.cst (.str "extra"))] [(.sub (.tup [(.cst (.int 0)),(.cst (.int 1)),(.bin .sub (.bin .pow (.cst (.int 2)) (.bin .pow (.cst (.int 2)) (.loc 1))) (.cst (.int 1)))]) (.fn 30 [(.loc 0),(.cst (.int 3))])),(.fn 32 [(.loc 0),(.sub (.tup [(.cst (.int 0)),(.cst (.int 1)),(.cst (.int 32))]) (.fn 30 [(.loc 0),(.cst (.int 3))]))])]),
 .forV (.loc 3) (.tup [(.cst (.str "number")),(.cst (.str "limit")),(.cst (.str "used")),(.cst (.str "time"))])
 [.asg (.sub (.loc 2) (.loc 3)) (.fn 31 [(.loc 0),(.fn 27 [])])],
 .asg (.tup [(.sub (.loc 2) (.cst (.str "random"))),(.sub (.loc 2) (.cst (.str "base_fee")))]) (.tup [(.fn 31 [(.loc 0),(.fn 28 [])]),(.fn 31 [(.loc 0),(.fn 28 [])])]),
 .asg (.sub (.loc 2) (.cst (.str "beneficiary"))) (.fn 31 [(.loc 0),(.fn 29 [])]),
 .forV (.loc 3) (.tup [(.cst (.str "parent")),(.cst (.str "state_root")),(.cst (.str "transactions_root")),(.cst (.str "receipts_root")),(.cst (.str "withdrawals_root"))])
 [.asg (.sub (.loc 2) (.loc 3)) (.fn 32 [(.loc 0),(.cst (.int 32))])],
 .frz 2,
 .ret (.loc 2)]⟩
noncomputable def c__law_made_receipt:Fd:=⟨1,["law_fields", "law_logs"],
 [.asg (.loc 1) (.comp 3 true false (.sub (.loc 0) (.cst (.int 4))) [] (.mk 2 [(.loc 0),(.loc 1),(.loc 2)]) ["law_home", "law_topics", "law_octets"] []),
 .ret (.mk 3 [(.sub (.loc 0) (.cst (.int 0))),(.sub (.loc 0) (.cst (.int 1))),(.sub (.loc 0) (.cst (.int 2))),(.sub (.loc 0) (.cst (.int 3))),(.loc 1)])]⟩
noncomputable def c__law_made_head:Fd:=⟨1,["law_fields", "law_info", "law_roots"],
 [.asg (.loc 1) (.mk 4 [(.sub (.loc 0) (.cst (.str "number"))),(.sub (.loc 0) (.cst (.str "time"))),(.sub (.loc 0) (.cst (.str "beneficiary"))),(.sub (.loc 0) (.cst (.str "base_fee"))),(.sub (.loc 0) (.cst (.str "limit"))),(.sub (.loc 0) (.cst (.str "random"))),(.dct false [] [])]),
 .asg (.loc 2) (.comp 1 false false (.slc (.glo "_law_names" (.ref 384)) true true [(.cst (.int 2)),(.cst (.int 6))]) [] (.sub (.loc 1) (.loc 0)) ["law_name", "law_fields"] [0]),
 .ret (.mk 5 [(.sub (.loc 0) (.cst (.str "parent"))),(.loc 1),(.sub (.loc 0) (.cst (.str "used"))),(.sub (.loc 0) (.cst (.str "extra"))),(.sub (.loc 0) (.cst (.str "bloom"))),(.loc 2)])]⟩
noncomputable def c__law_figures:Fd:=⟨2,["law_number", "law_many", "law_gained"],
 [.asg (.loc 2) (.lst true []),
 .whl (.ite (.cmp (.loc 1) [.lt] [(.cst (.int 0))]) (.cmp (.loc 0) [.gt] [(.cst (.int 0))]) (.cmp (.len (.loc 2)) [.lt] [(.loc 1)]))
 [.app (.loc 2) (.bin .mod (.loc 0) (.cst (.int 256))),
 .asg (.loc 0) (.bin .fdiv (.loc 0) (.cst (.int 256)))],
 .frz 2,
 .ret (.byt (.rev (.loc 2)))]⟩
noncomputable def c__law_laid:Fd:=⟨1,["law_item", "law_low", "law_body", "law_size"],
 [.asg (.loc 1) (.ite (.val (.isi (.loc 0) .list)) (.cst (.int 192)) (.cst (.int 128))),
 .asg (.loc 2) (.ite (.cmp (.loc 1) [.eq] [(.cst (.int 192))]) (.join (.comp 1 false false (.loc 0) [] (.fn 38 [(.loc 0)]) ["law_part"] [])) (.loc 0)),
 .ite (.and [(.cmp (.loc 1) [.eq] [(.cst (.int 128))]),(.cmp (.len (.loc 2)) [.eq] [(.cst (.int 1))]),(.cmp (.sub (.loc 2) (.cst (.int 0))) [.lt] [(.cst (.int 128))])])
 [.ret (.loc 2)]
 [],
 .ite (.cmp (.len (.loc 2)) [.lt] [(.cst (.int 56))])
 [.ret (.bin .add (.byt (.lst false [(.bin .add (.loc 1) (.len (.loc 2)))])) (.loc 2))]
 [],
 .asg (.loc 3) (.fn 37 [(.len (.loc 2)),(.neg (.cst (.int 1)))]),
 .ret (.bin .add (.bin .add (.byt (.lst false [(.bin .add (.bin .add (.loc 1) (.cst (.int 55))) (.len (.loc 3)))])) (.loc 3)) (.loc 2))]⟩
noncomputable def c__law_receipt_octets:Fd:=⟨2,["law_fields", "law_bits", "law_logs", "law_home", "law_topics", "law_octets", "law_rows"],
 [.asg (.loc 2) (.lst true []),
 .forV (.tup [(.loc 3),(.loc 4),(.loc 5)]) (.sub (.loc 0) (.cst (.int 4)))
 [.app (.loc 2) (.lst false [(.fn 37 [(.loc 3),(.cst (.int 20))]),(.comp 1 false false (.loc 4) [] (.fn 37 [(.loc 0),(.cst (.int 32))]) ["law_topic"] []),(.loc 5)])],
 .asg (.loc 6) (.lst false [(.ite (.val (.sub (.loc 0) (.cst (.int 1)))) (.cst (.bytes [1])) (.cst (.bytes []))),(.fn 37 [(.sub (.loc 0) (.cst (.int 2))),(.neg (.cst (.int 1)))])]),
 .frz 2,
 .asg (.loc 6) (.bin .add (.loc 6) (.lst false [(.fn 37 [(.sub (.loc 0) (.cst (.int 3))),(.bin .fdiv (.bin .pow (.cst (.int 2)) (.loc 1)) (.cst (.int 8)))]),(.loc 2)])),
 .ret (.bin .add (.ite (.cmp (.sub (.loc 0) (.cst (.int 0))) [.eq] [(.cst (.int 0))]) (.cst (.bytes [])) (.byt (.lst false [(.sub (.loc 0) (.cst (.int 0)))]))) (.fn 38 [(.loc 6)]))]⟩
noncomputable def c__law_head_octets:Fd:=⟨3,["law_fields", "law_bits", "law_uncles", "law_rows"],
 [.asg (.loc 3) (.lst false [(.sub (.loc 0) (.cst (.str "parent"))),(.loc 2),(.fn 37 [(.sub (.loc 0) (.cst (.str "beneficiary"))),(.cst (.int 20))])]),
 .asg (.loc 3) (.bin .add (.loc 3) (.comp 1 false false (.slc (.glo "_law_names" (.ref 384)) true true [(.cst (.int 2)),(.cst (.int 5))]) [] (.sub (.loc 1) (.loc 0)) ["law_name", "law_fields"] [0])),
 .asg (.loc 3) (.bin .add (.loc 3) (.lst false [(.fn 37 [(.sub (.loc 0) (.cst (.str "bloom"))),(.bin .fdiv (.bin .pow (.cst (.int 2)) (.loc 1)) (.cst (.int 8)))]),(.cst (.bytes []))])),
 .asg (.loc 3) (.bin .add (.loc 3) (.comp 1 false false (.tup [(.cst (.str "number")),(.cst (.str "limit")),(.cst (.str "used")),(.cst (.str "time"))]) [] (.fn 37 [(.sub (.loc 1) (.loc 0)),(.neg (.cst (.int 1)))]) ["law_name", "law_fields"] [0])),
 .asg (.loc 3) (.bin .add (.loc 3) (.lst false [(.sub (.loc 0) (.cst (.str "extra"))),(.fn 37 [(.sub (.loc 0) (.cst (.str "random"))),(.cst (.int 32))]),(.bin .mul (.cst (.bytes [0])) (.cst (.int 8)))])),
 .ret (.fn 38 [(.bin .add (.loc 3) (.lst false [(.fn 37 [(.sub (.loc 0) (.cst (.str "base_fee"))),(.neg (.cst (.int 1)))]),(.sub (.loc 0) (.cst (.str "withdrawals_root")))]))])]⟩
noncomputable def c__law_number:Fd:=⟨2,["law_item", "law_bound", "law_number", "law_figure"],
 [.ite (.or [(.cmp (.loc 0) [.is] [(.cst .none)]),(.val (.isi (.loc 0) .list)),(.cmp (.slc (.loc 0) false true [(.cst (.int 1))]) [.eq] [(.cst (.bytes [0]))])])
 [.ret (.cst .none)]
 [],
 .asg (.loc 2) (.cst (.int 0)),
 .forV (.loc 3) (.slc (.loc 0) false true [(.cst (.int 40))])
 [.asg (.loc 2) (.bin .add (.bin .mul (.loc 2) (.cst (.int 256))) (.loc 3))],
 .ret (.ite (.cmp (.loc 2) [.lt] [(.loc 1)]) (.loc 2) (.cst .none))]⟩
noncomputable def c__law_fixed:Fd:=⟨2,["law_item", "law_size"],
 [.ite (.or [(.val (.isi (.loc 0) .list)),(.cmp (.len (.loc 0)) [.ne] [(.loc 1)])])
 [.ret (.cst .none)]
 [],
 .ret (.bin .sub (.fn 41 [(.bin .add (.cst (.bytes [1])) (.loc 0)),(.bin .pow (.cst (.int 2)) (.cst (.int 400)))]) (.bin .pow (.cst (.int 256)) (.loc 1)))]⟩
noncomputable def c__law_item:Fd:=⟨2,["octets", "at", "law_first", "law_begin", "law_size", "law_told", "law_end", "is_bare", "law_gained"],
 [.ite (.cmp (.loc 1) [.ge] [(.len (.loc 0))])
 [.ret (.cst .none)]
 [],
 .asg (.tup [(.loc 2),(.loc 3)]) (.tup [(.sub (.loc 0) (.loc 1)),(.bin .add (.loc 1) (.cst (.int 1)))]),
 .ite (.cmp (.loc 2) [.lt] [(.cst (.int 128))])
 [.ret (.tup [(.slc (.loc 0) true true [(.loc 1),(.loc 3)]),(.loc 3)])]
 [],
 .asg (.loc 4) (.bin .sub (.loc 2) (.ite (.cmp (.loc 2) [.ge] [(.cst (.int 192))]) (.cst (.int 192)) (.cst (.int 128)))),
 .ite (.cmp (.loc 4) [.gt] [(.cst (.int 55))])
 [.asg (.loc 5) (.slc (.loc 0) true true [(.loc 3),(.bin .sub (.bin .add (.loc 3) (.loc 4)) (.cst (.int 55)))]),
 .ite (.or [(.cmp (.len (.loc 5)) [.lt] [(.bin .sub (.loc 4) (.cst (.int 55)))]),(.cmp (.fn 41 [(.loc 5),(.bin .pow (.cst (.int 2)) (.cst (.int 320)))]) [.is] [(.cst .none)])])
 [.ret (.cst .none)]
 [],
 .asg (.tup [(.loc 3),(.loc 4)]) (.tup [(.bin .add (.loc 3) (.len (.loc 5))),(.fn 41 [(.loc 5),(.bin .pow (.cst (.int 2)) (.cst (.int 320)))])]),
 .ite (.cmp (.loc 4) [.lt] [(.cst (.int 56))])
 [.ret (.cst .none)]
 []]
 [],
 .asg (.loc 6) (.bin .add (.loc 3) (.loc 4)),
 .ite (.cmp (.loc 6) [.gt] [(.len (.loc 0))])
 [.ret (.cst .none)]
 [],
 .ite (.cmp (.loc 2) [.lt] [(.cst (.int 192))])
 [.asg (.loc 7) (.andv (.cmp (.loc 4) .eq (.cst (.int 1))) (.cmp (.sub (.loc 0) (.loc 3)) .lt (.cst (.int 128)))),
 .ret (.ite (.val (.loc 7)) (.cst .none) (.tup [(.slc (.loc 0) true true [(.loc 3),(.loc 6)]),(.loc 6)]))]
 [],
 .asg (.loc 8) (.lst true []),
 .whl (.cmp (.loc 3) [.lt] [(.loc 6)])
 [.asg (.loc 5) (.fn 43 [(.loc 0),(.loc 3)]),
 .ite (.cmp (.loc 5) [.is] [(.cst .none)])
 [.ret (.cst .none)]
 [],
 .app (.loc 8) (.sub (.loc 5) (.cst (.int 0))),
 .asg (.loc 3) (.sub (.loc 5) (.cst (.int 1)))],
 .frz 8,
 .ret (.ite (.cmp (.loc 3) [.eq] [(.loc 6)]) (.tup [(.loc 8),(.loc 6)]) (.cst .none))]⟩
noncomputable def c__law_list:Fd:=⟨3,["octets", "at", "law_many", "law_told"],
 [.asg (.loc 3) (.fn 43 [(.loc 0),(.loc 1)]),
 .ite (.or [(.cmp (.loc 3) [.is] [(.cst .none)]),(.cmp (.sub (.loc 3) (.cst (.int 1))) [.ne] [(.len (.loc 0))]),(.not (.val (.isi (.sub (.loc 3) (.cst (.int 0))) .list)))])
 [.ret (.cst .none)]
 [],
 .ret (.ite (.cmp (.len (.sub (.loc 3) (.cst (.int 0)))) [.eq] [(.loc 2)]) (.sub (.loc 3) (.cst (.int 0))) (.cst .none))]⟩
noncomputable def c__law_heard_receipt:Fd:=⟨2,["octets", "law_bits", "law_kind", "law_rows", "law_word", "law_used", "law_bloom", "law_logs", "law_row", "law_home", "law_topics"],
 [.asg (.loc 2) (.ite (.cmp (.slc (.loc 0) false true [(.cst (.int 1))]) [.inn] [(.tup [(.cst (.bytes [1])),(.cst (.bytes [2]))])]) (.sub (.loc 0) (.cst (.int 0))) (.cst (.int 0))),
 .asg (.loc 3) (.fn 44 [(.loc 0),(.ite (.cmp (.loc 2) [.gt] [(.cst (.int 0))]) (.cst (.int 1)) (.cst (.int 0))),(.cst (.int 4))]),
 .ite (.or [(.cmp (.loc 3) [.is] [(.cst .none)]),(.not (.val (.isi (.sub (.loc 3) (.cst (.int 3))) .list)))])
 [.ret (.cst .none)]
 [],
 .asg (.tup [(.loc 4),(.loc 5)]) (.tup [(.fn 41 [(.sub (.loc 3) (.cst (.int 0))),(.cst (.int 2))]),(.fn 41 [(.sub (.loc 3) (.cst (.int 1))),(.bin .pow (.cst (.int 2)) (.cst (.int 64)))])]),
 .asg (.tup [(.loc 6),(.loc 7)]) (.tup [(.fn 42 [(.sub (.loc 3) (.cst (.int 2))),(.bin .fdiv (.bin .pow (.cst (.int 2)) (.loc 1)) (.cst (.int 8)))]),(.lst true [])]),
 .forV (.loc 8) (.sub (.loc 3) (.cst (.int 3)))
 [.ite (.or [(.not (.val (.isi (.loc 8) .list))),(.cmp (.len (.loc 8)) [.ne] [(.cst (.int 3))]),(.not (.val (.isi (.sub (.loc 8) (.cst (.int 1))) .list)))])
 [.ret (.cst .none)]
 [],
 .asg (.tup [(.loc 9),(.loc 10)]) (.tup [(.fn 42 [(.sub (.loc 8) (.cst (.int 0))),(.cst (.int 20))]),(.comp 1 false false (.sub (.loc 8) (.cst (.int 1))) [] (.fn 42 [(.loc 0),(.cst (.int 32))]) ["law_topic"] [])]),
 .ite (.or [(.cmp (.loc 9) [.is] [(.cst .none)]),(.cmp (.cst .none) [.inn] [(.loc 10)]),(.cmp (.len (.loc 10)) [.gt] [(.cst (.int 4))]),(.val (.isi (.sub (.loc 8) (.cst (.int 2))) .list))])
 [.ret (.cst .none)]
 [],
 .app (.loc 7) (.tup [(.loc 9),(.loc 10),(.sub (.loc 8) (.cst (.int 2)))])],
 .ite (.or [(.cmp (.loc 4) [.is] [(.cst .none)]),(.cmp (.loc 5) [.is] [(.cst .none)]),(.cmp (.loc 6) [.is] [(.cst .none)])])
 [.ret (.cst .none)]
 [],
 .frz 7,
 .ret (.lst false [(.loc 2),(.cmp (.loc 4) .eq (.cst (.int 1))),(.loc 5),(.loc 6),(.loc 7)])]⟩
noncomputable def c__law_heard_head:Fd:=⟨3,["octets", "law_bits", "law_uncles", "law_rows", "law_found", "at", "law_name", "law_places", "law_row"],
 [.asg (.loc 3) (.fn 44 [(.loc 0),(.cst (.int 0)),(.cst (.int 17))]),
 .ite (.or [(.cmp (.loc 3) [.is] [(.cst .none)]),(.cmp (.sub (.loc 3) (.cst (.int 1))) [.ne] [(.loc 2)]),(.cmp (.sub (.loc 3) (.cst (.int 7))) [.ne] [(.cst (.bytes []))]),(.cmp (.sub (.loc 3) (.cst (.int 14))) [.ne] [(.bin .mul (.cst (.bytes [0])) (.cst (.int 8)))])])
 [.ret (.cst .none)]
 [],
 .asg (.loc 4) (.dct true [(.cst (.str "bloom")),(.cst (.str "beneficiary"))] [(.fn 42 [(.sub (.loc 3) (.cst (.int 6))),(.bin .fdiv (.bin .pow (.cst (.int 2)) (.loc 1)) (.cst (.int 8)))]),(.fn 42 [(.sub (.loc 3) (.cst (.int 2))),(.cst (.int 20))])]),
 .forE 5 6 (.tup [(.cst (.str "number")),(.cst (.str "limit")),(.cst (.str "used")),(.cst (.str "time"))])
 [.asg (.sub (.loc 4) (.loc 6)) (.fn 41 [(.sub (.loc 3) (.bin .add (.cst (.int 8)) (.loc 5))),(.bin .pow (.cst (.int 2)) (.cst (.int 64)))])],
 .asg (.tup [(.sub (.loc 4) (.cst (.str "random"))),(.sub (.loc 4) (.cst (.str "base_fee")))]) (.tup [(.fn 42 [(.sub (.loc 3) (.cst (.int 13))),(.cst (.int 32))]),(.fn 41 [(.sub (.loc 3) (.cst (.int 15))),(.bin .pow (.cst (.int 2)) (.cst (.int 256)))])]),
 .asg (.loc 7) (.dct false [(.cst (.str "parent")),(.cst (.str "state_root")),(.cst (.str "transactions_root")),(.cst (.str "receipts_root")),(.cst (.str "withdrawals_root"))] [(.cst (.int 0)),(.cst (.int 3)),(.cst (.int 4)),(.cst (.int 5)),(.cst (.int 16))]),
 .forV (.loc 6) (.loc 7)
 [.asg (.loc 8) (.sub (.loc 3) (.sub (.loc 7) (.loc 6))),
 .asg (.sub (.loc 4) (.loc 6)) (.ite (.cmp (.fn 42 [(.loc 8),(.cst (.int 32))]) [.is] [(.cst .none)]) (.cst .none) (.loc 8))],
 .asg (.sub (.loc 4) (.cst (.str "extra"))) (.ite (.or [(.val (.isi (.sub (.loc 3) (.cst (.int 12))) .list)),(.cmp (.len (.sub (.loc 3) (.cst (.int 12)))) [.gt] [(.cst (.int 32))])]) (.cst .none) (.sub (.loc 3) (.cst (.int 12)))),
 .frz 4,
 .ret (.ite (.cmp (.cst .none) [.inn] [(.comp 1 false false (.glo "_law_names" (.ref 384)) [] (.sub (.loc 1) (.loc 0)) ["law_name", "law_found"] [4])]) (.cst .none) (.loc 4))]⟩
noncomputable def c__law_told_receipt:Fd:=⟨2,["octets", "law_bits", "law_one", "law_logs"],
 [.tryc [.asg (.loc 2) (.fn 19 [(.loc 0),(.loc 1)])] 1 .retNone,
 .asg (.loc 3) (.comp 1 false false (.att (.loc 2) "logs") [] (.tup [(.att (.loc 0) "address"),(.att (.loc 0) "topics"),(.att (.loc 0) "data")]) ["law_log"] []),
 .ret (.lst false [(.att (.loc 2) "kind"),(.att (.loc 2) "is_good"),(.att (.loc 2) "used"),(.att (.loc 2) "bloom"),(.loc 3)])]⟩
noncomputable def c__law_told_head:Fd:=⟨3,["octets", "law_digest", "law_bits", "law_one", "law_found"],
 [.tryc [.asg (.loc 3) (.fn 25 [(.loc 0),(.loc 1),(.loc 2)])] 1 .retNone,
 .asg (.loc 4) (.dct true [(.cst (.str "parent")),(.cst (.str "beneficiary")),(.cst (.str "state_root")),(.cst (.str "transactions_root")),(.cst (.str "receipts_root")),(.cst (.str "withdrawals_root")),(.cst (.str "bloom")),(.cst (.str "number"))] [(.att (.loc 3) "parent"),(.att (.loc 3) "beneficiary"),(.att (.loc 3) "state_root"),(.att (.loc 3) "transactions_root"),(.att (.loc 3) "receipts_root"),(.att (.loc 3) "withdrawals_root"),(.att (.loc 3) "bloom"),(.att (.loc 3) "number")]),
 .asg (.tup [(.sub (.loc 4) (.cst (.str "limit"))),(.sub (.loc 4) (.cst (.str "used"))),(.sub (.loc 4) (.cst (.str "time")))]) (.tup [(.att (.loc 3) "limit"),(.att (.loc 3) "used"),(.att (.loc 3) "time")]),
 .asg (.tup [(.sub (.loc 4) (.cst (.str "extra"))),(.sub (.loc 4) (.cst (.str "random"))),(.sub (.loc 4) (.cst (.str "base_fee")))]) (.tup [(.att (.loc 3) "extra"),(.att (.loc 3) "random"),(.att (.loc 3) "base_fee")]),
 .frz 4,
 .ret (.loc 4)]⟩
noncomputable def c__law_bent:Fd:=⟨2,["well", "octets", "law_way", "at"],
 [.asg (.tup [(.loc 2),(.loc 3)]) (.tup [(.fn 30 [(.loc 0),(.cst (.int 7))]),(.fn 30 [(.loc 0),(.len (.loc 1))])]),
 .ite (.cmp (.loc 2) [.lt] [(.cst (.int 2))])
 [.ret (.bin .add (.bin .add (.slc (.loc 1) false true [(.loc 3)]) (.byt (.lst false [(.bin .mod (.bin .add (.bin .add (.sub (.loc 1) (.loc 3)) (.cst (.int 1))) (.fn 30 [(.loc 0),(.cst (.int 255))])) (.cst (.int 256)))]))) (.slc (.loc 1) true false [(.bin .add (.loc 3) (.cst (.int 1)))]))]
 [],
 .ite (.cmp (.loc 2) [.eq] [(.cst (.int 2))])
 [.ret (.bin .add (.bin .add (.slc (.loc 1) false true [(.loc 3)]) (.byt (.lst false [(.fn 31 [(.loc 0),(.tup [(.cst (.int 0)),(.cst (.int 1)),(.cst (.int 128)),(.cst (.int 192)),(.cst (.int 255))])])]))) (.slc (.loc 1) true false [(.loc 3)]))]
 [],
 .ite (.cmp (.loc 2) [.eq] [(.cst (.int 3))])
 [.ret (.bin .add (.slc (.loc 1) false true [(.loc 3)]) (.slc (.loc 1) true false [(.bin .add (.loc 3) (.cst (.int 1)))]))]
 [],
 .ite (.cmp (.loc 2) [.eq] [(.cst (.int 4))])
 [.ret (.slc (.loc 1) false true [(.loc 3)])]
 [],
 .ite (.cmp (.loc 2) [.eq] [(.cst (.int 5))])
 [.ret (.bin .add (.loc 1) (.byt (.lst false [(.fn 30 [(.loc 0),(.cst (.int 256))])])))]
 [],
 .ret (.bin .add (.byt (.lst false [(.fn 30 [(.loc 0),(.cst (.int 4))])])) (.ite (.cmp (.sub (.loc 1) (.cst (.int 0))) [.lt] [(.cst (.int 3))]) (.slc (.loc 1) true false [(.cst (.int 1))]) (.loc 1)))]⟩
noncomputable def c__law_is_receipt_right:Fd:=⟨2,["well", "law_bits", "law_fields", "octets", "law_some", "law_due", "law_came"],
 [.asg (.loc 2) (.fn 33 [(.loc 0),(.loc 1)]),
 .asg (.loc 3) (.fn 39 [(.loc 2),(.loc 1)]),
 .ite (.cmp (.fn 16 [(.fn 35 [(.loc 2)]),(.loc 1)]) [.ne] [(.loc 3)])
 [.ret (.cst (.bool false))]
 [],
 .forV (.loc 4) (.tup [(.loc 3),(.fn 49 [(.loc 0),(.loc 3)]),(.fn 49 [(.loc 0),(.loc 3)])])
 [.asg (.tup [(.loc 5),(.loc 6)]) (.tup [(.fn 45 [(.loc 4),(.loc 1)]),(.fn 47 [(.loc 4),(.loc 1)])]),
 .ite (.or [(.cmp (.loc 5) [.ne] [(.loc 6)]),(.and [(.cmp (.loc 5) [.is] [(.cst .none)]),(.cmp (.loc 4) [.eq] [(.loc 3)])])])
 [.ret (.cst (.bool false))]
 [],
 .ite (.cmp (.loc 5) [.isnt] [(.cst .none)])
 [.ite (.or [(.not (.val (.isi (.sub (.loc 6) (.cst (.int 1))) .bool))),(.cmp (.fn 16 [(.fn 35 [(.loc 5)]),(.loc 1)]) [.ne] [(.loc 4)])])
 [.ret (.cst (.bool false))]
 []]
 []],
 .ret (.cmp (.loc 2) .eq (.fn 47 [(.loc 3),(.loc 1)]))]⟩
noncomputable def c__law_is_head_right:Fd:=⟨3,["well", "law_bits", "law_digest", "law_fields", "law_uncles", "octets", "law_one", "law_some", "law_due", "law_came"],
 [.asg (.tup [(.loc 3),(.loc 4)]) (.tup [(.fn 34 [(.loc 0),(.loc 1)]),(.mth (.loc 2) "of" [(.cst (.bytes [192]))])]),
 .asg (.tup [(.loc 5),(.loc 6)]) (.tup [(.fn 40 [(.loc 3),(.loc 1),(.loc 4)]),(.fn 36 [(.loc 3)])]),
 .ite (.or [(.cmp (.fn 22 [(.loc 6),(.loc 2),(.loc 1)]) [.ne] [(.loc 5)]),(.cmp (.fn 23 [(.loc 6),(.loc 2),(.loc 1)]) [.ne] [(.mth (.loc 2) "of" [(.loc 5)])])])
 [.ret (.cst (.bool false))]
 [],
 .ite (.cmp (.fn 48 [(.loc 5),(.loc 2),(.loc 1)]) [.ne] [(.loc 3)])
 [.ret (.cst (.bool false))]
 [],
 .forV (.loc 7) (.tup [(.loc 5),(.fn 49 [(.loc 0),(.loc 5)]),(.fn 49 [(.loc 0),(.loc 5)])])
 [.asg (.tup [(.loc 8),(.loc 9)]) (.tup [(.fn 46 [(.loc 7),(.loc 1),(.loc 4)]),(.fn 48 [(.loc 7),(.loc 2),(.loc 1)])]),
 .ite (.or [(.cmp (.loc 8) [.ne] [(.loc 9)]),(.and [(.cmp (.loc 8) [.is] [(.cst .none)]),(.cmp (.loc 7) [.eq] [(.loc 5)])])])
 [.ret (.cst (.bool false))]
 [],
 .ite (.and [(.cmp (.loc 8) [.isnt] [(.cst .none)]),(.cmp (.fn 22 [(.fn 36 [(.loc 8)]),(.loc 2),(.loc 1)]) [.ne] [(.loc 7)])])
 [.ret (.cst (.bool false))]
 []],
 .ret (.fn 52 [(.loc 3),(.loc 1),(.loc 2)])]⟩
noncomputable def c__law_are_refused:Fd:=⟨3,["law_fields", "law_bits", "law_digest", "law_menu", "law_name", "law_worth", "law_other"],
 [.asg (.loc 3) (.comp2 (.tup [(.cst (.str "number")),(.cst (.str "limit")),(.cst (.str "used")),(.cst (.str "time"))]) (.tup [(.neg (.cst (.int 1))),(.bin .pow (.cst (.int 2)) (.cst (.int 64)))]) (.tup [(.loc 0),(.loc 1)]) ["law_name", "law_worth"]),
 .asg (.loc 3) (.bin .add (.loc 3) (.lst false [(.tup [(.cst (.str "random")),(.neg (.cst (.int 1)))]),(.tup [(.cst (.str "random")),(.bin .pow (.cst (.int 2)) (.cst (.int 256)))]),(.tup [(.cst (.str "base_fee")),(.neg (.cst (.int 1)))]),(.tup [(.cst (.str "base_fee")),(.bin .pow (.cst (.int 2)) (.cst (.int 256)))]),(.tup [(.cst (.str "beneficiary")),(.neg (.cst (.int 1)))])])),
 .asg (.loc 3) (.bin .add (.loc 3) (.lst false [(.tup [(.cst (.str "beneficiary")),(.bin .pow (.cst (.int 2)) (.cst (.int 160)))]),(.tup [(.cst (.str "parent")),(.bin .mul (.cst (.bytes [97])) (.cst (.int 31)))]),(.tup [(.cst (.str "receipts_root")),(.bin .mul (.cst (.bytes [97])) (.cst (.int 33)))]),(.tup [(.cst (.str "extra")),(.bin .mul (.cst (.bytes [97])) (.cst (.int 33)))])])),
 .forV (.tup [(.loc 4),(.loc 5)]) (.bin .add (.loc 3) (.lst false [(.tup [(.cst (.str "bloom")),(.bin .pow (.cst (.int 2)) (.bin .pow (.cst (.int 2)) (.loc 1)))]),(.tup [(.cst (.str "bloom")),(.neg (.cst (.int 1)))])]))
 [.asg (.loc 6) (.dcp (.loc 0)),
 .asg (.sub (.loc 6) (.loc 4)) (.loc 5),
 .frz 6,
 .tryc [.exp (.fn 22 [(.fn 36 [(.loc 6)]),(.loc 2),(.loc 1)]),
 .ret (.cst (.bool false))] 0 .cont],
 .forV (.loc 6) (.tup [(.lst false [(.cst (.int 3)),(.cst (.bool true)),(.cst (.int 1)),(.cst (.int 0)),(.lst false [])]),(.lst false [(.neg (.cst (.int 1))),(.cst (.bool true)),(.cst (.int 1)),(.cst (.int 0)),(.lst false [])]),(.lst false [(.cst (.int 0)),(.cst (.bool true)),(.neg (.cst (.int 1))),(.cst (.int 0)),(.lst false [])]),(.lst false [(.cst (.int 1)),(.cst (.bool true)),(.bin .pow (.cst (.int 2)) (.cst (.int 64))),(.cst (.int 0)),(.lst false [])]),(.lst false [(.cst (.int 0)),(.cst (.bool true)),(.cst (.int 1)),(.neg (.cst (.int 1))),(.lst false [])])])
 [.tryc [.exp (.fn 16 [(.fn 35 [(.loc 6)]),(.loc 1)]),
 .ret (.cst (.bool false))] 0 .cont],
 .ret (.cst (.bool true))]⟩
noncomputable def c__law_is_withdrawal_right:Fd:=⟨1,["well", "law_rows", "law_due", "law_other"],
 [.asg (.loc 1) (.lst false [(.fn 31 [(.loc 0),(.fn 27 [])]),(.fn 31 [(.loc 0),(.fn 27 [])]),(.fn 31 [(.loc 0),(.fn 29 [])]),(.fn 31 [(.loc 0),(.fn 27 [])])]),
 .asg (.loc 2) (.fn 38 [(.lst false [(.fn 37 [(.sub (.loc 1) (.cst (.int 0))),(.neg (.cst (.int 1)))]),(.fn 37 [(.sub (.loc 1) (.cst (.int 1))),(.neg (.cst (.int 1)))]),(.fn 37 [(.sub (.loc 1) (.cst (.int 2))),(.cst (.int 20))]),(.fn 37 [(.sub (.loc 1) (.cst (.int 3))),(.neg (.cst (.int 1)))])])]),
 .ite (.cmp (.fn 26 [(.mk 6 [(.sub (.loc 1) (.cst (.int 0))),(.sub (.loc 1) (.cst (.int 1))),(.sub (.loc 1) (.cst (.int 2))),(.sub (.loc 1) (.cst (.int 3)))])]) [.ne] [(.loc 2)])
 [.ret (.cst (.bool false))]
 [],
 .forV (.loc 3) (.tup [(.mk 6 [(.neg (.cst (.int 1))),(.cst (.int 0)),(.cst (.int 0)),(.cst (.int 0))]),(.mk 6 [(.cst (.int 0)),(.bin .pow (.cst (.int 2)) (.cst (.int 64))),(.cst (.int 0)),(.cst (.int 0))]),(.mk 6 [(.cst (.int 0)),(.cst (.int 0)),(.bin .pow (.cst (.int 2)) (.cst (.int 160))),(.cst (.int 0))]),(.mk 6 [(.cst (.int 0)),(.cst (.int 0)),(.cst (.int 0)),(.neg (.cst (.int 1)))])])
 [.tryc [.exp (.fn 26 [(.loc 3)]),
 .ret (.cst (.bool false))] 0 .cont],
 .ret (.cst (.bool true))]⟩
noncomputable def c_law:Fd:=⟨1,["script", "well", "law_digest", "law_bits"],
 [.asg (.tup [(.loc 1),(.loc 2)]) (.tup [(.lst true [(.comp 1 false false (.slc (.loc 0) false true [(.cst (.int 60))]) [] (.bin .mod (.loc 0) (.cst (.int 2147483647))) ["given"] []),(.cst (.int 0)),(.cst (.int 1))]),(.mk 7 [])]),
 .asg (.loc 3) (.bin .add (.cst (.int 3)) (.fn 30 [(.loc 1),(.cst (.int 4))])),
 .ite (.or [(.not (.val (.fn 50 [(.loc 1),(.loc 3)]))),(.not (.val (.fn 53 [(.loc 1)])))])
 [.ret (.cst (.bool false))]
 [],
 .ret (.fn 51 [(.loc 1),(.loc 3),(.loc 2)])]⟩
noncomputable def codeL:List (Nat×Fd):=[(0,c_bloom_octets),(1,c_number_octets),(2,c_octets_number),(3,c_head),(4,c_encoded_at),(5,c_encoded),(6,c_read_size),(7,c_read_head),(8,c_read_item),(9,c_decoded),(10,c_led),(11,c_word_octets),(12,c_octets_word),(13,c_read_number),(14,c_read_fixed),(15,c_log_item),(16,c_receipt_octets),(17,c_read_log),(18,c_read_bloom),(19,c_read_receipt),(20,c_need_form),(21,c_no_uncles),(22,c_header_octets),(23,c_header_hash),(24,c_read_root),(25,c_read_header),(26,c_withdrawal_octets),(70,c_Numbered_number),(71,c_Numbered_of),(27,c__law_short),(28,c__law_wide),(29,c__law_homes),(30,c__law_draw),(31,c__law_pick),(32,c__law_seeded),(33,c__law_receipt),(34,c__law_head),(35,c__law_made_receipt),(36,c__law_made_head),(37,c__law_figures),(38,c__law_laid),(39,c__law_receipt_octets),(40,c__law_head_octets),(41,c__law_number),(42,c__law_fixed),(43,c__law_item),(44,c__law_list),(45,c__law_heard_receipt),(46,c__law_heard_head),(47,c__law_told_receipt),(48,c__law_told_head),(49,c__law_bent),(50,c__law_is_receipt_right),(51,c__law_is_head_right),(52,c__law_are_refused),(53,c__law_is_withdrawal_right),(54,c_law)]
noncomputable def initL:List (Nat×Fd):=[(2,c_Log_init),(3,c_Receipt_init),(4,c_BlockInfo_init),(5,c_Header_init),(6,c_Withdrawal_init),(7,c_Numbered_init)]
noncomputable def codeF (f:Nat):Option Fd:=codeL.lookup f
noncomputable def codeI (c:Nat):Option Fd:=initL.lookup c
noncomputable def code:Code:=⟨codeF,codeI⟩
end
end Internal
end
section
namespace Internal
noncomputable def sizesV:List V:=[.int 0,.int 1,.int 55,.int 56]
noncomputable def namesV:List V:=["parent", "beneficiary", "state_root", "transactions_root", "receipts_root", "withdrawals_root", "bloom", "number", "limit", "used", "time", "extra", "random", "base_fee"].map V.str
noncomputable def sto0 (a:Nat)(ns:List Int):Sto:=fun b=>if b=383 then some (.tup sizesV) else if b=384 then some (.tup namesV) else if b=a then some (.list false (ns.map V.int)) else none
noncomputable def LAW:Prop:=∀(a:Nat) (ns:List Int),ns.length≤63→a≠383→a≠384→wpSs ⟨wpF code 682,wpI code⟩ c_law.body [.ref a,.unb,.unb,.unb] (sto0 a ns) (fun f ω ω=>f=.ret (.bool true)) (fun ω ω ω=>False)
end Internal
end
section
namespace Internal
inductive U where
 |none
 |bool (b:Bool)
 |int (i:Int)
 |bytes (l:List UInt8)
 |str (x:String)
 |tup (l:List U)
 |list (l:List U)
 |dict (ks:List String) (l:List U)
 |obj (C:Nat) (l:List U)
 |well
 |dig
inductive Sl where
 |unb
 |val (u:U)
 |grow (l:List U)
 |gdict (ks:List String) (l:List U)
inductive Zl where |next |cont |brk |ret (u:U)
noncomputable abbrev KS:=List (Nat×Nat)
noncomputable abbrev ZQ:=U→KS→Prop
noncomputable abbrev ZE:=Nat→KS→Prop
noncomputable abbrev ZS:=Zl→List Sl→KS→Prop
noncomputable abbrev ZEs:=Nat→List Sl→KS→Prop
inductive Wd (p:Prop):Prop
 |mk (h:p):Wd p
theorem Wd.h {p:Prop}:Wd p→p |⟨h⟩=>h
@[irreducible] noncomputable def brd (p:Prop)[Decidable p](R:Bool→Prop):Prop:=Wd (R (decide p))
noncomputable def gd (p:Prop)[Decidable p](P:Prop):Prop:=cond (decide p) P False
theorem brd_of {p:Prop}[Decidable p]{R:Bool→Prop}(h:brd p R):R (decide p):=by unfold brd at h;exact h.h
theorem zif {p:Prop}[Decidable p]{R:Bool→Prop}(h:p→R true)(k:¬p→R false):brd p R:=by
 unfold brd
 exact .mk <|(Decidable.em p).elim (fun z=>(decide_eq_true z).symm▸h z) fun z=>(decide_eq_false z).symm▸k z
theorem zt {p:Prop}[Decidable p]{R:Bool→Prop}(h:p)(q:R true):brd p R:=zif (fun ω=>q) fun z=>absurd h z
theorem zf {p:Prop}[Decidable p]{R:Bool→Prop}(h:¬p)(q:R false):brd p R:=zif (fun z=>absurd z h) fun ω=>q
theorem gd_ {p:Prop}[Decidable p]{P:Prop}(h:p)(k:P):gd p P:=show cond (decide p) P False from (decide_eq_true h).symm▸k
theorem gd_of {p:Prop}[Decidable p]{P:Prop}(h:gd p P):p∧P:=by
 by_cases z:p
 ·exact ⟨z,by unfold gd at h;rw [decide_eq_true z] at h;exact h⟩
 ·unfold gd at h;rw [decide_eq_false z] at h;exact h.elim
noncomputable def vl (s:Sl)(k:U→Prop):Prop:=match s with
 |.val u=>k u
 |_=>False
noncomputable def ixS:List Sl→Nat→Sl
 | [],_=>.unb
 |s::_,0=>s
 |_::r,i+1=>ixS r i
noncomputable def setS:List Sl→Nat→Sl→List Sl
 | [],_,_=>[]
 |_::r,0,s=>s::r
 |x::r,i+1,s=>x::setS r i s
noncomputable def asIZ (v:U)(k:Int→Prop):Prop:=match v with
 |.int i=>k i
 |_=>False
noncomputable def asBZ (v:U)(k:List UInt8→Prop):Prop:=match v with
 |.bytes l=>k l
 |_=>False
noncomputable def asTZ (v:U)(k:Bool→Prop):Prop:=match v with
 |.bool b=>k b
 |_=>False
noncomputable def asLZ (v:U)(k:List U→Prop):Prop:=match v with
 |.list l=>k l
 |_=>False
noncomputable def sizesU:List U:=[.int 0,.int 1,.int 55,.int 56]
noncomputable def namesS:List String:=["parent", "beneficiary", "state_root", "transactions_root", "receipts_root", "withdrawals_root", "bloom", "number", "limit", "used", "time", "extra", "random", "base_fee"]
noncomputable def ofV (v:V)(k:U→Prop):Prop:=match v with
 |.none=>k .none
 |.bool b=>k (.bool b)
 |.int i=>k (.int i)
 |.bytes l=>k (.bytes l)
 |.str x=>k (.str x)
 |.ref a=>cond (Nat.beq a 383) (k (.tup sizesU)) (cond (Nat.beq a 384) (k (.tup (namesS.map U.str))) False)
 |.unb=>False
noncomputable def nthU:List U→Nat→(U→Prop)→Prop
 | [],_,_=>False
 |u::_,0,k=>k u
 |_::r,i+1,k=>nthU r i k
noncomputable def getU (n:String):List String→List U→(U→Prop)→Prop
 |x::r,u::us,k=>cond (n==x) (k u) (getU n r us k)
 |_,_,_=>False
noncomputable def hasK (n:String):List String→Bool
 | []=>false
 |x::r=>cond (n==x) true (hasK n r)
noncomputable def mapV (n:String)(v:U):List String→List U→List U
 |x::r,u::us=>cond (n==x) v u::mapV n v r us
 |_,_=>[]
noncomputable def setV (n:String)(v:U)(ks:List String)(us:List U):List U:=cond (hasK n ks) (mapV n v ks us) (us++[v])
noncomputable def ksOf:List U→(List String→Prop)→Prop
 | [],k=>k []
 |.str x::r,k=>ksOf r fun ks=>k (x::ks)
 |_::_,_=>False
noncomputable def freshK:List String→Bool
 | []=>true
 |x::r=>cond (hasK x r) false (freshK r)
noncomputable def setKs (n:String)(ks:List String):List String:=cond (hasK n ks) ks (ks++[n])
mutual
noncomputable def plain:Nat→U→Bool
 |n+1,.tup l=>plains n l
 |n+1,.list l=>plains n l
 |_,.none=>true
 |_,.bool _=>true
 |_,.int _=>true
 |_,.bytes _=>true
 |_,_=>false
noncomputable def plains:Nat→List U→Bool
 |_,[]=>true
 |n,u::r=>plain n u&&plains n r
end
noncomputable def flatU:U→Bool
 |.int _ |.bytes _=>true
 |_=>false
noncomputable def sameDict (kt:List String)(ut:List U):List String→List U→Prop
 |x::r,u::us=>getU x kt ut (fun w=>u=w∧flatU u=true)∧sameDict kt ut r us
 | [],[]=>True
 |_,_=>False
@[irreducible] noncomputable def zEqU (x y:U)(R:Bool→Prop):Prop:=Wd <|
 (x=y∧plain 32 x=true∧R true)∨(∃l,x=.list l∧y=.list []∧plains 31 l=true∧R l.isEmpty)∨
 ∃ks us kt ut,x=.dict ks us∧y=.dict kt ut∧ks.length=kt.length∧us.length=ut.length∧sameDict kt ut ks us∧R true
noncomputable def flatEqU (x u:U):Bool:=match x with
 |.none=>(match u with |.none=>true |_=>false)
 |.int a=>(match u with |.int b=>a==b |_=>false)
 |.bytes a=>(match u with |.bytes b=>a==b |_=>false)
 |_=>false
noncomputable def flatInU (x u:U):Bool:=match x with
 |.none=>(match u with |.none=>true |.int _=>true |.bytes _=>true |_=>false)
 |.int _=>(match u with |.int _=>true |_=>false)
 |.bytes _=>(match u with |.bytes _=>true |_=>false)
 |_=>false
@[irreducible] noncomputable def zIn (x:U)(us:List U)(R:Bool→Prop):Prop:=Wd (gd (us.all (flatInU x)=true) (R (us.any (flatEqU x))))
noncomputable def seqU (u:U)(k:List U→Prop):Prop:=match u with
 |.tup l=>k l
 |.list l=>k l
 |_=>False
noncomputable def asSZ (v:U)(k:String→Prop):Prop:=match v with
 |.str x=>k x
 |_=>False
noncomputable def isN (v:U):Bool:=match v with
 |.none=>true
 |_=>false
noncomputable def int2 (x y:U)(k:Int→Int→Prop):Prop:=asIZ x fun a=>asIZ y fun b=>k a b
noncomputable def zEq (x y:U)(R:Bool→Prop):Prop:=match x with
 |.int a=>asIZ y fun b=>brd (a=b) R
 |.bytes a=>asBZ y fun b=>brd (a=b) R
 |.list a=>asLZ y fun b=>zEqU (.list a) (.list b) R
 |_=>False
noncomputable def zNe (x y:U)(R:Bool→Prop):Prop:=match x with
 |.int a=>asIZ y fun b=>brd (¬a=b) R
 |.bytes a=>asBZ y fun b=>brd (¬a=b) R
 |.list a=>match y with
  |.bytes _=>R true
  |y=>asLZ y fun b=>zEqU (.list a) (.list b) fun r=>R (!r)
 |.dict ks us=>match y with
  |.dict kt ut=>zEqU (.dict ks us) (.dict kt ut) fun r=>R (!r)
  |_=>False
 |.none=>cond (isN y) (R false) False
 |_=>False
noncomputable def zCmp (op:COp)(x y:U)(R:Bool→Prop):Prop:=match op with
 |.eq=>zEq x y R
 |.ne=>zNe x y R
 |.lt=>int2 x y fun a b=>brd (a<b) R
 |.le=>int2 x y fun a b=>brd (a≤b) R
 |.gt=>int2 x y fun a b=>brd (a>b) R
 |.ge=>int2 x y fun a b=>brd (a≥b) R
 |.is=>cond (isN y) (R (isN x)) False
 |.isnt=>cond (isN y) (R (!isN x)) False
 |.inn=>seqU y fun us=>zIn x us R
 |.nin=>seqU y fun us=>zIn x us fun r=>R (!r)
noncomputable def zAdd (x y:U)(Q:U→Prop):Prop:=match x with
 |.int a=>asIZ y fun b=>Q (.int (a+b))
 |.bytes a=>asBZ y fun b=>a.length+b.length≤16777216∧Q (.bytes (a++b))
 |.list a=>asLZ y fun b=>gd (a.length+b.length≤1000) (Q (.list (a++b)))
 |_=>False
noncomputable def zMul (x y:U)(Q:U→Prop):Prop:=match x with
 |.int a=>asIZ y fun b=>gd (b.natAbs<18446744073709551616) (Q (.int (a*b)))
 |.bytes a=>asIZ y fun b=>gd (a≠[]∧a.length≤16∧0≤b∧b≤1048576) (Q (.bytes (List.replicate b.toNat a).flatten))
 |_=>False
@[irreducible] noncomputable def zSubI (a b:Int)(Q:U→Prop):Prop:=Wd (Q (.int (a-b)))
@[irreducible] noncomputable def zPowI (a b:Int)(Q:U→Prop):Prop:=Wd ((0≤b∧b≤1000000∧a.natAbs<18446744073709551616)∧Q (.int (a^b.toNat)))
@[irreducible] noncomputable def zShlI (a b:Int)(Q:U→Prop):Prop:=Wd ((0≤b∧b≤1000000∧a.natAbs<18446744073709551616)∧Q (.int (a*2^b.toNat)))
noncomputable def zBin (op:BOp)(x y:U)(Q:U→Prop):Prop:=match op with
 |.add=>zAdd x y Q
 |.mul=>zMul x y Q
 |.sub=>int2 x y fun a b=>zSubI a b Q
 |.mod=>int2 x y fun a b=>gd (0<b) (Q (.int (a % b)))
 |.fdiv=>int2 x y fun a b=>gd (0<b∧b<1073741824) (Q (.int (a/b)))
 |.pow=>int2 x y fun a b=>zPowI a b Q
 |.shl=>int2 x y fun a b=>zShlI a b Q
noncomputable def zSub (x y:U)(Q:U→Prop):Prop:=match x with
 |.bytes l=>asIZ y fun k=>(0≤k∧k<l.length∧l.length≤16777216)∧Q (.int (l.getD k.toNat 0).toNat)
 |.dict ks us=>asSZ y fun x=>getU x ks us Q
 |x=>asIZ y fun k=>seqU x fun us=>gd (0≤k∧k≤1000000) (nthU us k.toNat Q)
noncomputable def opt2 (lo hi:Option Int)(k:Int→Int→Prop):Prop:=match lo,hi with
 |some i,some j=>k i j
 |_,_=>False
@[irreducible] noncomputable def zSlc (lo hi:Option Int)(x:U)(Q:U→Prop):Prop:=Wd <|match x with
 |.bytes l=>l.length≤16777216∧Q (.bytes (cut l lo hi))
 |.tup us=>opt2 lo hi fun i j=>gd (i=2∧(j=5∨j=6)∧us.length=14) (Q (.tup ((us.drop 2).take (j-2).toNat)))
 |.list us=>opt2 lo hi fun i j=>gd (us.length≤1000) (Q (.list (cut us (some i) (some j))))
 |_=>False
noncomputable def slcZ (lo hi:Bool)(vs:List U)(k:Option Int→Option Int→Prop):Prop:=match vs with
 | [u]=>asIZ u fun i=>cond lo (cond hi False (k (some i) none)) (cond hi (k none (some i)) False)
 | [u,w]=>int2 u w fun i j=>cond lo (cond hi (k (some i) (some j)) False) False
 |_=>False
noncomputable def zLen (x:U)(Q:U→Prop):Prop:=match x with
 |.bytes l=>l.length≤16777216∧Q (.int l.length)
 |x=>seqU x fun us=>us.length≤1000000∧Q (.int us.length)
noncomputable def zIsi (t:Ty)(x:U)(Q:U→Prop):Prop:=match x with
 |.list _=>(match t with |.list=>Q (.bool true) |.bytes=>Q (.bool false) |.bool=>False)
 |.bytes _=>(match t with |.list=>Q (.bool false) |.bytes=>Q (.bool true) |.bool=>False)
 |.bool _=>(match t with |.bool=>Q (.bool true) |_=>False)
 |_=>False
@[irreducible] noncomputable def zByt (x:U)(Q:U→Prop):Prop:=Wd <|match x with
 |.bytes l=>l.length≤16777216∧Q (.bytes l)
 |.list us=>∃ns:List Int,us=ns.map U.int∧(∀n∈ns,0≤n∧n<256)∧ns.length≤1000000∧Q (.bytes (ns.map fun n=>UInt8.ofNat n.toNat))
 |_=>False
noncomputable def namesOf:Nat→List String
 |2=>["address", "topics", "data"]
 |3=>["kind", "is_good", "used", "bloom", "logs"]
 |4=>["number", "time", "beneficiary", "base_fee", "limit", "random", "hashes"]
 |5=>["parent", "beneficiary", "state_root", "transactions_root", "receipts_root", "withdrawals_root", "bloom", "number", "limit", "used", "time", "extra", "random", "base_fee"]
 |6=>["index", "validator", "address", "amount"]
 |_=>[]
@[irreducible] noncomputable def zAtt (n:String)(a:U)(Q:U→Prop):Prop:=Wd <|match a with
 |.obj C us=>getU n (namesOf C) us Q
 |_=>False
noncomputable def hd1 (us:List U)(k:U→List U→Prop):Prop:=match us with
 |u::r=>k u r
 | []=>False
noncomputable def asOZ (x:U)(k:List U→Prop):Prop:=match x with
 |.obj C l=>cond (Nat.beq C 4) (k l) False
 |_=>False
noncomputable def zMk5 (us:List U)(Q:U→Prop):Prop:=hd1 us fun p us=>hd1 us fun i us=>hd1 us fun used us=>hd1 us fun extra us=>hd1 us fun bloom us=>hd1 us fun rs us=>cond us.isEmpty
 (asOZ i fun l=>hd1 l fun nu l=>hd1 l fun ti l=>hd1 l fun be l=>hd1 l fun fe l=>hd1 l fun li l=>hd1 l fun ra ω=>
  asLZ rs fun l=>hd1 l fun r0 l=>hd1 l fun r1 l=>hd1 l fun r2 l=>hd1 l fun r3 ω=>Q (.obj 5 [p,be,r0,r1,r2,r3,bloom,nu,li,used,ti,extra,ra,fe])) False
noncomputable def zMk (c:Nat)(us:List U)(Q:U→Prop):Prop:=
 cond (Nat.beq c 5) (zMk5 us Q) (cond (Nat.ble 2 c&&Nat.ble c 6&&Nat.beq us.length (namesOf c).length) (Q (.obj c us)) False)
noncomputable def fmt (m:Nat):List UInt8:=(beN 4 m).reverse++beN 8 (m*281479271743489 % 18446744073709551616)++beN 20 (605153021707326989568713251046585937826284568576+m)
inductive OfR (k m:Nat):KS→KS→Prop
 |old {K}:(k,m)∈K→OfR k m K K
 |new {K}:(∀p∈K,p.1≠k)→OfR k m K (K++[(k,m)])
noncomputable def zOf (us:List U)(K:KS)(Q:ZQ):Prop:=match us with
 | [u]=>asBZ u fun o=>(o.length≤100000∧K.length≤900)∧∀m K',OfR (valB (1::o)) m K K'→Q (.bytes (fmt m)) K'
 |_=>False
@[irreducible] noncomputable def zDraw (us:List U)(K:KS)(Q:ZQ):Prop:=Wd <|match us with
 | [.well,u]=>asIZ u fun z=>0<z∧∀r:Nat,(r:Int)<z→Q (.int r) K
 |_=>False
noncomputable def zToB (little:Bool)(x k:Int)(Q:U→Prop):Prop:=(0≤k∧k≤64∧0≤x∧x<256^k.toNat)∧Q (.bytes (cond little (beN k.toNat x.toNat).reverse (beN k.toNat x.toNat)))
@[irreducible] noncomputable def zJoin (x:U)(Q:U→Prop):Prop:=Wd (asLZ x fun us=>∃ls:List (List UInt8),us=ls.map U.bytes∧ls.length≤1000∧ls.flatten.length≤16777216∧Q (.bytes ls.flatten))
noncomputable def zIter (u:U)(Q:List U→Prop):Prop:=match u with
 |.bytes l=>l.length≤16777216∧Q (l.map fun c=>.int c.toNat)
 |.dict ks _=>gd (ks.length≤1000∧ks≠[]) (Q (ks.map U.str))
 |u=>seqU u fun us=>us.length≤1000000∧Q us
noncomputable def zRange (u:U)(Q:List U→Prop):Prop:=asIZ u fun n=>(0≤n∧n≤1000000)∧Q ((List.range n.toNat).map fun (i:Nat)=>U.int (i:Int))
noncomputable def zCL (step:U→List U→KS→(List U→KS→Prop)→Prop):List U→List U→KS→(List U→KS→Prop)→Prop
 | [],acc,K,Q=>Q acc K
 |x::r,acc,K,Q=>step x acc K fun acc K=>zCL step r acc K Q
noncomputable def loopK (k:List Sl→KS→Prop)(Q:ZS):ZS
 |.next,ρ,K=>k ρ K
 |.cont,ρ,K=>k ρ K
 |.brk,ρ,K=>Q .next ρ K
 |.ret v,ρ,K=>Q (.ret v) ρ K
noncomputable def zFor (step:U→List Sl→KS→ZS→Prop):List U→List Sl→KS→ZS→Prop
 | [],ρ,K,Q=>Q .next ρ K
 |x::r,ρ,K,Q=>step x ρ K (loopK (fun ρ K=>zFor step r ρ K Q) Q)
noncomputable def zForE (step:Nat→U→List Sl→KS→ZS→Prop):Nat→List U→List Sl→KS→ZS→Prop
 |_,[],ρ,K,Q=>Q .next ρ K
 |i,x::r,ρ,K,Q=>step i x ρ K (loopK (fun ρ K=>zForE step (i+1) r ρ K Q) Q)
noncomputable def zWhl (test:List Sl→KS→(Bool→KS→Prop)→Prop)(body:List Sl→KS→ZS→Prop):Nat→List Sl→KS→ZS→Prop
 |0,_,_,_=>False
 |n+1,ρ,K,Q=>test ρ K fun b K=>cond b (body ρ K (loopK (fun ρ K=>zWhl test body n ρ K Q) Q)) (Q .next ρ K)
noncomputable def bindZ (k:Nat)(tupled:Bool)(v:U)(Q:List Sl→Prop):Prop:=cond tupled
 (match v with
  |.tup us=>cond (Nat.beq us.length k) (Q (us.map Sl.val)) False
  |_=>False) (cond (Nat.beq k 1) (Q [.val v]) False)
noncomputable def capsS (ρ:List Sl):List Nat→List Sl
 | []=>[]
 |i::r=>ixS ρ i::capsS ρ r
noncomputable def locN (x:X):Option Nat:=match x with
 |.loc i=>some i
 |_=>none
theorem locN_ {x:X}{i:Nat}:locN x=some i→x=.loc i:=by
 cases x with
 |loc j=>exact fun e=>congrArg X.loc (Option.some.inj e)
 |_=>exact fun e=>absurd e.symm (Option.some_ne_none i)
noncomputable def zLenG (s:Sl)(Q:U→Prop):Prop:=match s with
 |.grow us=>us.length≤1000000∧Q (.int us.length)
 |.val u=>zLen u Q
 |_=>False
structure CZ where
 f:Nat→List U→KS→ZQ→ZE→Prop
 o:List U→KS→ZQ→Prop
mutual
noncomputable def zX (ch:CZ):X→List Sl→KS→ZQ→ZE→Prop
 |.loc i,ρ,K,Q,_=>vl (ixS ρ i) fun u=>Q u K
 |.glo _ v,_,K,Q,_=>ofV v fun u=>Q u K
 |.cst v,_,K,Q,_=>ofV v fun u=>Q u K
 |.bin op a b,ρ,K,Q,E=>zX ch a ρ K (fun x K=>zX ch b ρ K (fun y K=>zBin op x y fun u=>Q u K) E) E
 |.neg a,ρ,K,Q,E=>zX ch a ρ K (fun x K=>asIZ x fun i=>Q (.int (-i)) K) E
 |.cmp a op b,ρ,K,Q,E=>zX ch a ρ K (fun x K=>zX ch b ρ K (fun y K=>zCmp op x y fun r=>Q (.bool r) K) E) E
 |.andv a b,ρ,K,Q,E=>zX ch a ρ K (fun x K=>asTZ x fun c=>cond c (zX ch b ρ K Q E) (Q (.bool false) K)) E
 |.ite c a b,ρ,K,Q,E=>zT ch c ρ K (fun r K=>cond r (zX ch a ρ K Q E) (zX ch b ρ K Q E)) E
 |.tup xs,ρ,K,Q,E=>zXs ch xs ρ K (fun us K=>Q (.tup us) K) E
 |.lst m xs,ρ,K,Q,E=>cond m False (zXs ch xs ρ K (fun us K=>Q (.list us) K) E)
 |.dct m ks vs,ρ,K,Q,E=>cond m False (zXs ch ks ρ K (fun kk K=>zXs ch vs ρ K (fun us K=>ksOf kk fun ks=>gd (freshK ks=true∧ks.length=us.length) (Q (.dict ks us) K)) E) E)
 |.sub a i,ρ,K,Q,E=>zX ch a ρ K (fun x K=>zX ch i ρ K (fun y K=>zSub x y fun u=>Q u K) E) E
 |.slc a lo hi xs,ρ,K,Q,E=>zX ch a ρ K (fun x K=>zXs ch xs ρ K (fun us K=>slcZ lo hi us fun l h=>zSlc l h x fun u=>Q u K) E) E
 |.rev a,ρ,K,Q,E=>zX ch a ρ K (fun x K=>asLZ x fun us=>us.length≤1000∧Q (.list us.reverse) K) E
 |.att a n,ρ,K,Q,E=>zX ch a ρ K (fun x K=>zAtt n x fun u=>Q u K) E
 |.fn f xs,ρ,K,Q,E=>zXs ch xs ρ K (fun us K=>ch.f f us K Q E) E
 |.mk c xs,ρ,K,Q,E=>zXs ch xs ρ K (fun us K=>zMk c us fun u=>Q u K) E
 |.mth a n xs,ρ,K,Q,E=>cond (n == "of") (zX ch a ρ K (fun x K=>match x with |.dig=>zXs ch xs ρ K (fun us K=>ch.o us K Q) E |_=>False) E) False
 |.len a,ρ,K,Q,E=>match locN a with
  |some i=>zLenG (ixS ρ i) fun u=>Q u K
  |none=>zX ch a ρ K (fun x K=>zLen x fun u=>Q u K) E
 |.isi a t,ρ,K,Q,E=>zX ch a ρ K (fun x K=>zIsi t x fun u=>Q u K) E
 |.byt a,ρ,K,Q,E=>zX ch a ρ K (fun x K=>zByt x fun u=>Q u K) E
 |.dcp _,_,_,_,_=>False
 |.toB a n l,ρ,K,Q,E=>zX ch a ρ K (fun x K=>asIZ x fun i=>zX ch n ρ K (fun y K=>asIZ y fun k=>zToB l i k fun u=>Q u K) E) E
 |.frB a,ρ,K,Q,E=>zX ch a ρ K (fun x K=>asBZ x fun l=>l.length≤1000000∧Q (.int (valB l)) K) E
 |.bitl a,ρ,K,Q,E=>zX ch a ρ K (fun x K=>asIZ x fun i=>Q (.int (bitlen i)) K) E
 |.join a,ρ,K,Q,E=>zX ch a ρ K (fun x K=>zJoin x fun u=>Q u K) E
 |.comp k tupled rng it ifs elt _ caps,ρ,K,Q,E=>zX ch it ρ K (fun v K=>
   cond rng (zRange v) (zIter v) fun items=>
    zCL (fun item acc K kont=>bindZ k tupled item fun ws=>
     zAnd ch ifs (ws++capsS ρ caps) K (fun b K=>cond b (zX ch elt (ws++capsS ρ caps) K (fun r K=>kont (acc++[r]) K) E) (kont acc K)) E) items [] K
     fun rs K=>Q (.list rs) K) E
 |.comp2 it1 it2 elt _,ρ,K,Q,E=>zX ch it1 ρ K (fun v K=>zIter v fun items=>
    zCL (fun item acc K kont=>zX ch it2 [.val item,.unb] K (fun v2 K=>zIter v2 fun items2=>
     zCL (fun item2 acc K kont2=>zX ch elt [.val item,.val item2] K (fun r K=>acc.length≤1000000∧kont2 (acc++[r]) K) E) items2 acc K kont) E) items [] K
     fun rs K=>Q (.list rs) K) E
noncomputable def zXs (ch:CZ):List X→List Sl→KS→(List U→KS→Prop)→ZE→Prop
 | [],_,K,Q,_=>Q [] K
 |x::r,ρ,K,Q,E=>zX ch x ρ K (fun v K=>zXs ch r ρ K (fun vs K=>Q (v::vs) K) E) E
noncomputable def zT (ch:CZ):T→List Sl→KS→(Bool→KS→Prop)→ZE→Prop
 |.val x,ρ,K,R,E=>zX ch x ρ K (fun v K=>asTZ v fun b=>R b K) E
 |.not t,ρ,K,R,E=>zT ch t ρ K (fun b K=>R (!b) K) E
 |.and ts,ρ,K,R,E=>zAnd ch ts ρ K R E
 |.or ts,ρ,K,R,E=>zOr ch ts ρ K R E
 |.ite c a b,ρ,K,R,E=>zT ch c ρ K (fun r K=>cond r (zT ch a ρ K R E) (zT ch b ρ K R E)) E
 |.cmp a ops xs,ρ,K,R,E=>zX ch a ρ K (fun v K=>zCh ch xs ops v ρ K R E) E
noncomputable def zAnd (ch:CZ):List T→List Sl→KS→(Bool→KS→Prop)→ZE→Prop
 | [],_,K,R,_=>R true K
 |t::r,ρ,K,R,E=>zT ch t ρ K (fun b K=>cond b (zAnd ch r ρ K R E) (R false K)) E
noncomputable def zOr (ch:CZ):List T→List Sl→KS→(Bool→KS→Prop)→ZE→Prop
 | [],_,K,R,_=>R false K
 |t::r,ρ,K,R,E=>zT ch t ρ K (fun b K=>cond b (R true K) (zOr ch r ρ K R E)) E
noncomputable def zCh (ch:CZ):List X→List COp→U→List Sl→KS→(Bool→KS→Prop)→ZE→Prop
 | [x],[op],l,ρ,K,R,E=>zX ch x ρ K (fun v K=>zCmp op l v fun r=>R r K) E
 |x::r,op::ops,l,ρ,K,R,E=>zX ch x ρ K (fun v K=>zCmp op l v fun b=>cond b (zCh ch r ops v ρ K R E) (R false K)) E
 |_,_,_,_,_,_,_=>False
end
end Internal
end
section
namespace Internal
noncomputable def locX (x:X)(k:Nat→Prop):Prop:=match locN x with
 |some i=>k i
 |none=>False
noncomputable def asG (s:Sl)(k:List U→Prop):Prop:=match s with
 |.grow us=>k us
 |_=>False
noncomputable def asGD (s:Sl)(k:List String→List U→Prop):Prop:=match s with
 |.gdict ks us=>k ks us
 |_=>False
mutual
noncomputable def zTg (ch:CZ):Tg→U→List Sl→KS→(List Sl→KS→Prop)→ZEs→Prop
 |.loc i,v,ρ,K,Q,_=>cond (Nat.blt i ρ.length) (Q (setS ρ i (.val v)) K) False
 |.tup ts,v,ρ,K,Q,E=>seqU v fun vs=>cond (Nat.beq vs.length ts.length) (zTgs ch ts vs ρ K Q E) False
 |.sub o i,v,ρ,K,Q,E=>locX o fun j=>asGD (ixS ρ j) fun ks us=>zX ch i ρ K (fun y K=>asSZ y fun x=>gd (ks.length≤1000) (Q (setS ρ j (.gdict (setKs x ks) (setV x v ks us))) K)) fun c K=>E c ρ K
 |.att _ _,_,_,_,_,_=>False
noncomputable def zTgs (ch:CZ):List Tg→List U→List Sl→KS→(List Sl→KS→Prop)→ZEs→Prop
 | [],[],ρ,K,Q,_=>Q ρ K
 |t::ts,v::vs,ρ,K,Q,E=>zTg ch t v ρ K (fun ρ K=>zTgs ch ts vs ρ K Q E) E
 |_,_,_,_,_,_=>False
end
noncomputable def asDZ (v:U)(k:List String→List U→Prop):Prop:=match v with
 |.dict ks us=>k ks us
 |_=>False
noncomputable def one:List Sl→Bool
 | []=>true
 |.grow _::_=>false
 |.gdict _ _::_=>false
 |_::r=>one r
inductive New where
 |no
 |list
 |pair (x:X)
 |dict (ks vs:List X)
 |copy (x:X)
noncomputable def isNewL (x:X):Bool:=match x with
 |.lst m xs=>m&&xs.isEmpty
 |_=>false
noncomputable def newT (xs:List X):New:=match xs with
 | [x,y]=>cond (isNewL y) (.pair x) .no
 |_=>.no
noncomputable def newX (x:X):New:=match x with
 |.lst m xs=>cond (m&&xs.isEmpty) .list .no
 |.tup xs=>newT xs
 |.dct m ks vs=>cond m (.dict ks vs) .no
 |.dcp x=>.copy x
 |_=>.no
noncomputable def locT (t:Tg)(k:Nat→Prop):Prop:=match t with
 |.loc i=>k i
 |_=>False
noncomputable def tupT (t:Tg)(k:List Tg→Prop):Prop:=match t with
 |.tup ts=>k ts
 |_=>False
noncomputable def two (ts:List Tg)(k:Tg→Tg→Prop):Prop:=match ts with
 | [a,b]=>k a b
 |_=>False
noncomputable def zNew (ρ:List Sl)(i:Nat)(s:Sl)(k:List Sl→Prop):Prop:=cond (Nat.blt i ρ.length&&one (setS ρ i .unb)) (k (setS ρ i s)) False
noncomputable def zAsg (ch:CZ)(t:Tg)(x:X)(ρ:List Sl)(K:KS)(Q:ZS)(E:ZEs):Prop:=match newX x with
 |.no=>zX ch x ρ K (fun u K=>zTg ch t u ρ K (fun ρ K=>Q .next ρ K) E) fun c K=>E c ρ K
 |.list=>locT t fun i=>zNew ρ i (.grow []) fun ρ=>Q .next ρ K
 |.pair x=>tupT t fun ts=>two ts fun a b=>locT a fun j=>locT b fun i=>zX ch x ρ K (fun u K=>cond (Nat.blt j ρ.length) (zNew (setS ρ j (.val u)) i (.grow []) fun ρ=>Q .next ρ K) False) fun c K=>E c ρ K
 |.dict ks vs=>locT t fun i=>zXs ch ks ρ K (fun kk K=>zXs ch vs ρ K (fun us K=>ksOf kk fun ks=>gd (freshK ks=true∧ks.length=us.length) (zNew ρ i (.gdict ks us) fun ρ=>Q .next ρ K)) fun c K=>E c ρ K) fun c K=>E c ρ K
 |.copy x=>locT t fun i=>zX ch x ρ K (fun u K=>asDZ u fun ks us=>gd (ks.length≤1000∧ks≠[]) (zNew ρ i (.gdict ks us) fun ρ=>Q .next ρ K)) fun c K=>E c ρ K
noncomputable def seqZ (k:List Sl→KS→Prop)(Q:ZS):ZS
 |.next,ρ,K=>k ρ K
 |.cont,ρ,K=>Q .cont ρ K
 |.brk,ρ,K=>Q .brk ρ K
 |.ret v,ρ,K=>Q (.ret v) ρ K
mutual
noncomputable def zS (ch:CZ):S→List Sl→KS→ZS→ZEs→Prop
 |.asg t x,ρ,K,Q,E=>zAsg ch t x ρ K Q E
 |.app o x,ρ,K,Q,E=>locX o fun i=>asG (ixS ρ i) fun us=>zX ch x ρ K (fun u K=>us.length≤1000000∧Q .next (setS ρ i (.grow (us++[u]))) K) fun c K=>E c ρ K
 |.exp x,ρ,K,Q,E=>zX ch x ρ K (fun v K=>match v with
   |.none=>Q .next ρ K
   |.bytes _=>Q .next ρ K
   |_=>False) fun c K=>E c ρ K
 |.ite c a b,ρ,K,Q,E=>zT ch c ρ K (fun r K=>cond r (zSs ch a ρ K Q E) (zSs ch b ρ K Q E)) fun c K=>E c ρ K
 |.forV t it body,ρ,K,Q,E=>zX ch it ρ K (fun v K=>zIter v fun items=>zFor (fun item ρ K k=>zTg ch t item ρ K (fun ρ K=>zSs ch body ρ K k E) E) items ρ K Q) fun c K=>E c ρ K
 |.forR i n body,ρ,K,Q,E=>zX ch n ρ K (fun v K=>zRange v fun items=>zFor (fun item ρ K k=>cond (Nat.blt i ρ.length) (zSs ch body (setS ρ i (.val item)) K k E) False) items ρ K Q) fun c K=>E c ρ K
 |.forE i j x body,ρ,K,Q,E=>zX ch x ρ K (fun v K=>match v with
   |.tup us=>gd (us.length≤1000000) (zForE (fun n u ρ K k=>cond (Nat.blt i ρ.length&&Nat.blt j ρ.length) (zSs ch body (setS (setS ρ i (.val (.int n))) j (.val u)) K k E) False) 0 us ρ K Q)
   |_=>False) fun c K=>E c ρ K
 |.whl c body,ρ,K,Q,E=>∃n,zWhl (fun ρ K k=>zT ch c ρ K k fun c K=>E c ρ K) (fun ρ K k=>zSs ch body ρ K k E) n ρ K Q
 |.ret x,ρ,K,Q,E=>zX ch x ρ K (fun v K=>Q (.ret v) ρ K) fun c K=>E c ρ K
 |.rse c _,ρ,K,_,E=>E c ρ K
 |.tryc body c h,ρ,K,Q,E=>zSs ch body ρ K Q fun c' ρ K=>cond (exSub c' c) (match h with |.retNone=>Q (.ret .none) ρ K |.cont=>Q .cont ρ K) (E c' ρ K)
 |.cont,ρ,K,Q,_=>Q .cont ρ K
 |.pass,ρ,K,Q,_=>Q .next ρ K
 |.frz i,ρ,K,Q,_=>match ixS ρ i with
   |.grow us=>Q .next (setS ρ i (.val (.list us))) K
   |.gdict ks us=>Q .next (setS ρ i (.val (.dict ks us))) K
   |_=>False
noncomputable def zSs (ch:CZ):List S→List Sl→KS→ZS→ZEs→Prop
 | [],ρ,K,Q,_=>Q .next ρ K
 |s::r,ρ,K,Q,E=>zS ch s ρ K (seqZ (fun ρ K=>zSs ch r ρ K Q E) Q) E
end
noncomputable def retZ (Q:ZQ):ZS
 |.ret v,_,K=>Q v K
 |.next,_,K=>Q .none K
 |_,_,_=>False
noncomputable def errZ (E:ZE):ZEs:=fun c ω K=>E c K
noncomputable def unbs:Nat→List Sl
 |0=>[]
 |n+1=>.unb::unbs n
noncomputable def padS:List U→Nat→List Sl
 | [],n=>unbs n
 |u::r,n=>.val u::padS r n
noncomputable def zBody (ch:CZ)(d:Fd)(args:List U)(K:KS)(Q:ZQ)(E:ZE):Prop:=
 cond (Nat.beq args.length d.np) (zSs ch d.body (padS args (d.nm.length-d.np)) K (retZ Q) (errZ E)) False
@[irreducible] noncomputable def zF (C:Code):Nat→Nat→List U→KS→ZQ→ZE→Prop
 |0,_,_,_,_,_=>Wd False
 |n+1,f,args,K,Q,E=>Wd (cond (Nat.beq f 30) (zDraw args K Q) (match C.f f with
  |some d=>zBody ⟨zF C n,fun us K Q=>cond (Nat.ble 2 n) (zOf us K Q) False⟩ d args K Q E
  |none=>False))
theorem zF_zero {C f args K Q E}(h:zF C 0 f args K Q E):False:=by with_unfolding_all exact h.h
theorem zF_succ {C n f args K Q E}:zF C (n+1) f args K Q E=Wd (cond (Nat.beq f 30) (zDraw args K Q) (match C.f f with |some d=>zBody ⟨zF C n,fun us K Q=>cond (Nat.ble 2 n) (zOf us K Q) False⟩ d args K Q E |none=>False)):=by with_unfolding_all rfl
noncomputable def zch (n:Nat):CZ:=⟨zF code n,fun us K Q=>cond (Nat.ble 2 n) (zOf us K Q) False⟩
end Internal
end
section
namespace Internal
theorem Ext.refl {W σ}:Ext W σ σ:=fun ω ω ω h=>h
theorem Ext.trans {W σ σ' σ''}(h:Ext W σ σ')(k:Ext W σ' σ''):Ext W σ σ'':=fun a o n e=>k a o n (h a o n e)
theorem Ext.wide {σ σ':Sto}{W}(e:Ext [] σ σ'):Ext W σ σ':=fun a o ω h=>e a o List.not_mem_nil h
theorem Ext.get {σ σ':Sto}{a o}(e:Ext [] σ σ')(h:σ a=some o):σ' a=some o:=e a o List.not_mem_nil h
noncomputable def O.hot:O→Bool
 |.list m _=>m
 |.dict m _=>m
 |_=>false
noncomputable def Cold (σ σ':Sto):Prop:=∀a o,σ a=some o→o.hot=false→σ' a=some o
structure Pm where
 aw:Nat
 ad:Nat
 kd:Nat
noncomputable def Pm.W (p:Pm):List Nat:=[p.aw,p.kd]
noncomputable def kv1 (q:Nat×Nat):V×V:=(.int q.1,.int q.2)
inductive Well (σ:Sto)(w:Nat):Prop
 |mk (l:Nat) (i s:Int) (ns:List Int):σ w=some (.list true [.ref l,.int i,.int s])→σ l=some (.list false (ns.map V.int))→0≤i→0≤s→s<997→(∀n∈ns,0≤n∧n<2147483647)→ns.length≤60→Well σ w
inductive Num (σ:Sto)(g kd:Nat)(kv:List (V×V)):Prop
 |mk (dx:Nat):σ g=some (.inst 357 dx)→σ dx=some (.idict [("known",.ref kd)])→σ kd=some (.dict true kv)→Num σ g kd kv
structure SSt (p:Pm)(σ:Sto)(K:KS):Prop where
 well:Well σ p.aw
 num:Num σ p.ad p.kd (K.map kv1)
 bd:∀q∈K,q.2≤1000
 t3:σ 383=some (.tup sizesV)
 t4:σ 384=some (.tup namesV)
section
variable {p:Pm}{σ σ' σe:Sto}{K K':KS}
theorem SSt.hot (s:SSt p σ K){a:Nat}(h:a∈p.W):∃o,σ a=some o∧o.hot=true:=by
 cases h with
 |head=>cases s.well with |mk l i n ns h=>exact ⟨_,h,rfl⟩
 |tail _ h=>cases h with
  |head=>cases s.num with |mk d _ _ h=>exact ⟨_,h,rfl⟩
  |tail _ h=>cases h
theorem SSt.cold (s:SSt p σ K)(e:Ext p.W σ σ'):Cold σ σ':=fun a o h c=>e a o (fun m=>by
 obtain ⟨o',h',c'⟩:=s.hot m
 rw [h] at h';cases h';rw [c] at c';cases c') h
theorem SSt.up (s:SSt p σ K)(e:Ext [] σ σ'):SSt p σ' K:=
 ⟨by cases s.well with |mk l i n ns a b c=>exact ⟨l,i,n,ns,e.get a,e.get b,c,‹_›,‹_›,‹_›,‹_›⟩,by cases s.num with |mk d a b c=>exact ⟨d,e.get a,e.get b,e.get c⟩,s.bd,e.get s.t3,e.get s.t4⟩
noncomputable def kz (ks:List String)(vs:List V):List (V×V):=(ks.map V.str).zip vs
mutual
noncomputable def RU (p:Pm)(σ:Sto):U→V→Prop
 |.none,v=>v=.none
 |.bool b,v=>v=.bool b
 |.int i,v=>v=.int i
 |.bytes l,v=>v=.bytes l
 |.str x,v=>v=.str x
 |.tup l,v=>∃a vs,v=.ref a∧σ a=some (.tup vs)∧RUs p σ l vs
 |.list l,v=>∃a vs,v=.ref a∧σ a=some (.list false vs)∧RUs p σ l vs
 |.dict ks l,v=>∃a vs,v=.ref a∧σ a=some (.dict false (kz ks vs))∧ks.length=vs.length∧RUs p σ l vs
 |.obj C l,v=>∃a dx vs,v=.ref a∧σ a=some (.inst (clsAddr C) dx)∧σ dx=some (.idict ((namesOf C).zip vs))∧RUs p σ l vs
 |.well,v=>v=.ref p.aw
 |.dig,v=>v=.ref p.ad
noncomputable def RUs (p:Pm)(σ:Sto):List U→List V→Prop
 | [],vs=>vs=[]
 |u::r,vs=>∃v vs',vs=v::vs'∧RU p σ u v∧RUs p σ r vs'
end
theorem RU.cold2 (c:Cold σ σ')(u:U):∀v,RU p σ u v→RU p σ' u v:=
 U.rec (motive_1:=fun u=>∀v,RU p σ u v→RU p σ' u v) (motive_2:=fun l=>∀vs,RUs p σ l vs→RUs p σ' l vs) (fun ω h=>h) (fun ω ω h=>h) (fun ω ω h=>h) (fun ω ω h=>h) (fun ω ω h=>h)
  (fun ω ih ω h=>h.imp fun ω h=>h.imp fun ω h=>⟨h.1,c _ _ h.2.1 rfl,ih _ h.2.2⟩) (fun ω ih ω h=>h.imp fun ω h=>h.imp fun ω h=>⟨h.1,c _ _ h.2.1 rfl,ih _ h.2.2⟩)
  (fun ω ω ih ω h=>h.imp fun ω h=>h.imp fun ω h=>⟨h.1,c _ _ h.2.1 rfl,h.2.2.1,ih _ h.2.2.2⟩) (fun ω ω ih ω h=>h.imp fun ω h=>h.imp fun ω h=>h.imp fun ω h=>⟨h.1,c _ _ h.2.1 rfl,c _ _ h.2.2.1 rfl,ih _ h.2.2.2⟩)
  (fun ω h=>h) (fun ω h=>h) (fun ω h=>h) (fun ω ω i1 i2 ω h=>h.imp fun ω h=>h.imp fun ω h=>⟨h.1,i1 _ h.2.1,i2 _ h.2.2⟩) u
theorem RU.cold (c:Cold σ σ'){u:U}{v:V}(h:RU p σ u v):RU p σ' u v:=RU.cold2 c u v h
theorem RUs.cold (c:Cold σ σ'){l:List U}{vs:List V}(h:RUs p σ l vs):RUs p σ' l vs:=by
 induction l generalizing vs with
 |nil=>exact h
 |cons u r ih=>exact h.imp fun ω h=>h.imp fun ω h=>⟨h.1,RU.cold c h.2.1,ih h.2.2⟩
theorem RU.nu {u v}(h:RU p σ u v):v≠.unb:=by
 rintro rfl
 cases u<;>first |(cases h;done) |(obtain ⟨_,_,h,_⟩:=h;cases h;done) |(obtain ⟨_,_,_,h,_⟩:=h;cases h;done)
theorem RUs.len:∀{l vs},RUs p σ l vs→vs.length=l.length
 | [],_,h=>by cases h;rfl
 |_::_,_,⟨v,vs,e,_,r⟩=>by cases e;exact congrArg (· + 1) r.len
theorem RUs.app:∀{l vs k ws},RUs p σ l vs→RUs p σ k ws→RUs p σ (l++k) (vs++ws)
 | [],_,_,_,h,r=>by cases h;exact r
 |_::_,_,_,_,⟨v,vs,e,h,r⟩,k=>by cases e;exact ⟨v,_,rfl,h,r.app k⟩
theorem RUs.nil:RUs p σ [] []:=rfl
theorem RUs.snoc {l vs u v}(r:RUs p σ l vs)(h:RU p σ u v):RUs p σ (l++[u]) (vs++[v]):=r.app ⟨v,[],rfl,h,rfl⟩
theorem RUs.rev:∀{l vs},RUs p σ l vs→RUs p σ l.reverse vs.reverse
 | [],_,h=>by cases h;exact rfl
 |_::_,_,⟨v,vs,e,h,r⟩=>by cases e;rw [List.reverse_cons,List.reverse_cons];exact r.rev.snoc h
theorem RUs.drop:∀{l vs} (n:Nat),RUs p σ l vs→RUs p σ (l.drop n) (vs.drop n)
 |l,_,0,h=>h
 | [],_,n+1,h=>by cases h;exact rfl
 |_::_,_,n+1,⟨v,vs,e,h,r⟩=>by cases e;exact r.drop n
theorem RUs.take:∀{l vs} (n:Nat),RUs p σ l vs→RUs p σ (l.take n) (vs.take n)
 |l,_,0,h=>rfl
 | [],_,n+1,h=>by cases h;exact rfl
 |_::_,_,n+1,⟨v,vs,e,h,r⟩=>by cases e;exact ⟨v,_,rfl,h,r.take n⟩
theorem RUs.nth:∀{l vs} (n:Nat) {k:U→Prop},RUs p σ l vs→nthU l n k→∃u v,vs[n]? = some v∧RU p σ u v∧k u
 | [],_,_,_,_,q=>by cases ‹Nat›<;>exact q.elim
 |_::_,_,0,_,⟨v,vs,e,h,r⟩,q=>by cases e;exact ⟨_,v,rfl,h,q⟩
 |_::_,_,n+1,_,⟨v,vs,e,h,r⟩,q=>by cases e;exact r.nth n q
theorem RUs.strs:∀(ks:List String),RUs p σ (ks.map U.str) (ks.map V.str)
 | []=>rfl
 |x::r=>⟨.str x,_,rfl,rfl,RUs.strs r⟩
theorem RUs.ints:∀{α:Type} (f:α→Int) (l:List α),RUs p σ (l.map fun a=>U.int (f a)) (l.map fun a=>V.int (f a))
 |_,_,[]=>rfl
 |_,f,a::r=>⟨.int (f a),_,rfl,rfl,RUs.ints f r⟩
end
end Internal
end
section
namespace Internal
noncomputable def V.elim' (v:V):Bool:=Nat.beq v.ctorIdx 1
noncomputable def PQ (p:Pm)(σ:Sto)(Q:ZQ)(Q':PX):Prop:=∀u K v σ',Ext p.W σ σ'→SSt p σ' K→RU p σ' u v→Q u K→Q' v σ'
noncomputable def PEz (p:Pm)(σ:Sto)(E:ZE)(E':PE):Prop:=∀c K σ',Ext p.W σ σ'→SSt p σ' K→E c K→E' c σ'
section
variable {p:Pm}{σ σ' σe:Sto}{K K':KS}{Q:ZQ}{Q':PX}{E:ZE}{E':PE}{x y u:U}{v w:V}{R:Bool→Prop}
theorem PQ.up (q:PQ p σ Q Q')(e:Ext p.W σ σ'):PQ p σ' Q Q':=fun u K v s a=>q u K v s (e.trans a)
theorem PEz.up (q:PEz p σ E E')(e:Ext p.W σ σ'):PEz p σ' E E':=fun c K s a=>q c K s (e.trans a)
theorem PQ.val (q:PQ p σ Q Q')(s:SSt p σ K)(r:RU p σ u v)(h:Q u K):Q' v σ:=q _ _ _ _ .refl s r h
theorem PQ.al (q:PQ p σ Q Q')(s:SSt p σ K){o:O}(r:∀a σ',Ext [] σ σ'→σ' a=some o→RU p σ' u (.ref a))(h:Q u K):alloc o σ Q':=fun a σ' ω e g=>q _ _ _ σ' e.wide (s.up e) (r a σ' e g) h
theorem Ext.cold (e:Ext [] σ σ'):Cold σ σ':=fun ω ω h ω=>e.get h
theorem asIZ_ {k:Int→Prop}{P:V→Prop}(h:asIZ x k)(r:RU p σ x v)(f:∀i,k i→P (.int i)):P v:=by
 cases x<;>first |exact h.elim |(cases r;exact f _ h)
theorem asBZ_ {k:List UInt8→Prop}{P:V→Prop}(h:asBZ x k)(r:RU p σ x v)(f:∀i,k i→P (.bytes i)):P v:=by
 cases x<;>first |exact h.elim |(cases r;exact f _ h)
theorem asTZ_ {k:Bool→Prop}{P:V→Prop}(h:asTZ x k)(r:RU p σ x v)(f:∀i,k i→P (.bool i)):P v:=by
 cases x<;>first |exact h.elim |(cases r;exact f _ h)
theorem asSZ_ {k:String→Prop}{P:V→Prop}(h:asSZ x k)(r:RU p σ x v)(f:∀i,k i→P (.str i)):P v:=by
 cases x<;>first |exact h.elim |(cases r;exact f _ h)
theorem asLZ_ {k:List U→Prop}{P:V→Prop}(h:asLZ x k)(r:RU p σ x v)(f:∀a vs l,σ a=some (.list false vs)→RUs p σ l vs→k l→P (.ref a)):P v:=by
 cases x<;>first |exact h.elim |(obtain ⟨a,vs,rfl,g,r⟩:=r;exact f a vs _ g r h)
theorem seqU_ {k:List U→Prop}{P:V→Prop}(h:seqU x k)(r:RU p σ x v)(f:∀a vs l,isSeq σ a vs→RUs p σ l vs→k l→P (.ref a)):P v:=by
 cases x<;>first |exact h.elim |(obtain ⟨a,vs,rfl,g,r⟩:=r;first |exact f a vs _ (.inl g) r h |exact f a vs _ (.inr ⟨_,g⟩) r h)
theorem int2_ {k:Int→Int→Prop}{P:V→V→Prop}(h:int2 x y k)(r:RU p σ x v)(r':RU p σ y w)(f:∀a b,k a b→P (.int a) (.int b)):P v w:=
 asIZ_ (P:=fun v=>P v w) h r fun a h=>asIZ_ h r' fun b h=>f a b h
theorem isN_ {P:Prop}{T:V→Prop}(h:cond (isN y) P False)(r:RU p σ y w)(f:P→T .none):T w:=by
 cases y<;>first |exact h.elim |(cases r;exact f h)
theorem isN_v (r:RU p σ x v):v.elim'=isN x:=by
 cases x<;>first |(cases r;rfl) |(obtain ⟨_,_,rfl,_⟩:=r;rfl) |(obtain ⟨_,_,_,rfl,_⟩:=r;rfl)
theorem zBin_ok {op:BOp}(h:zBin op x y fun u=>Q u K)(s:SSt p σ K)(r:RU p σ x v)(r':RU p σ y w)(q:PQ p σ Q Q'):wpBin op v w σ Q':=by
 cases op with
 |sub=>exact int2_ (P:=fun v w=>wpBin .sub v w σ Q') h r r' fun a b h=>q.val (u:=.int _) s rfl (by unfold zSubI at h;exact h.h)
 |mod=>exact int2_ (P:=fun v w=>wpBin .mod v w σ Q') h r r' fun a b h=>⟨(gd_of h).1,q.val (u:=.int _) s rfl (gd_of h).2⟩
 |fdiv=>exact int2_ (P:=fun v w=>wpBin .fdiv v w σ Q') h r r' fun a b h=>⟨(gd_of h).1,q.val (u:=.int _) s rfl (gd_of h).2⟩
 |pow=>exact int2_ (P:=fun v w=>wpBin .pow v w σ Q') h r r' fun a b h=>by unfold zPowI at h;exact ⟨h.h.1,q.val (u:=.int _) s rfl h.h.2⟩
 |shl=>exact int2_ (P:=fun v w=>wpBin .shl v w σ Q') h r r' fun a b h=>by unfold zShlI at h;exact ⟨h.h.1,q.val (u:=.int _) s rfl h.h.2⟩
 |mul=>
  cases x<;>first |exact h.elim |skip
  ·cases r;exact asIZ_ (P:=fun w=>wpBin .mul _ w σ Q') h r' fun b h=>⟨(gd_of h).1,q.val (u:=.int _) s rfl (gd_of h).2⟩
  ·cases r;exact asIZ_ (P:=fun w=>wpBin .mul _ w σ Q') h r' fun b h=>⟨(gd_of h).1,q.val (u:=.bytes _) s rfl (gd_of h).2⟩
 |add=>
  cases x<;>first |exact h.elim |skip
  ·cases r;exact asIZ_ (P:=fun w=>wpBin .add _ w σ Q') h r' fun b h=>q.val (u:=.int _) s rfl h
  ·cases r;exact asBZ_ (P:=fun w=>wpBin .add _ w σ Q') h r' fun b h=>⟨h.1,q.val (u:=.bytes _) s rfl h.2⟩
  ·obtain ⟨a,vs,rfl,g,r⟩:=r
   exact asLZ_ (P:=fun w=>wpBin .add _ w σ Q') h r' fun b ws l g' r' h=>⟨_,_,_,_,g,g',by rw [r.len,r'.len];exact (gd_of h).1,q.al (u:=.list _) s (fun c σ' e g=>⟨c,_,rfl,g,(r.app r').cold e.cold⟩) (gd_of h).2⟩
theorem sames_of {n:Nat}{S:V→V→Prop}(hS:∀{u v w},RU p σ u v→RU p σ u w→plain n u=true→S v w):∀{l:List U} {vs us:List V},RUs p σ l vs→RUs p σ l us→plains n l=true→Sames S vs us
 | [],_,_,h,h',_=>by rw [show _=[] from h,show _=[] from h'];rfl
 |_::_,_,_,h,h',k=>by
  refine h.elim fun v h=>h.elim fun vs h=>h'.elim fun w h'=>h'.elim fun ws h'=>?_
  rw [h.1,h'.1]
  have k:=Bool.and_eq_true_iff.mp k
  exact ⟨w,ws,rfl,hS h.2.1 h'.2.1 k.1,sames_of hS h.2.2 h'.2.2 k.2⟩
theorem same_of:∀(n:Nat) {u:U} {v w:V},RU p σ u v→RU p σ u w→plain n u=true→Same σ n v w:=by
 intro n
 induction n with
 |zero=>intro u v w r r' h;cases u<;>first |(cases h;done) |(cases r;cases r';exact ⟨rfl,rfl⟩)
 |succ n ih=>
  intro u v w r r' h
  cases u<;>first |(cases h;done) |(cases r;cases r';exact .inl ⟨rfl,rfl⟩) |skip
  ·exact r.elim fun a r=>r.elim fun vs r=>r'.elim fun b r'=>r'.elim fun us r'=>.inr (by rw [r.1,r'.1];exact .tup vs us r.2.1 r'.2.1 (sames_of ih r.2.2 r'.2.2 h))
  ·exact r.elim fun a r=>r.elim fun vs r=>r'.elim fun b r'=>r'.elim fun us r'=>.inr (by rw [r.1,r'.1];exact .list vs us r.2.1 r'.2.1 (sames_of ih r.2.2 r'.2.2 h))
end
end Internal
end
section
namespace Internal
section
variable {p:Pm}{σ σ' σe:Sto}{K K':KS}{Q:ZQ}{Q':PX}{E:ZE}{E':PE}{x y u:U}{v w:V}{R:Bool→Prop}
theorem strKeys_kz:∀{ks:List String} {vs:List V},strKeys (kz ks vs)=true
 | [],[] | [],_::_ |_::_,[]=>rfl
 |x::r,v::vs=>strKeys_kz (ks:=r) (vs:=vs)
theorem dkeys_kz:∀{ks:List String} {vs:List V},ks.length=vs.length→dkeys (kz ks vs)=ks.map V.str
 | [],[],_=>rfl
 |x::r,v::vs,h=>congrArg (V.str x::·) (dkeys_kz (ks:=r) (vs:=vs) (Nat.succ.inj h))
 | [],_::_,h |_::_,[],h=>nomatch h
theorem kz_len {ks:List String}{vs:List V}(h:ks.length=vs.length):(kz ks vs).length=ks.length:=by
 rw [kz,List.length_zip,List.length_map,h,Nat.min_self]
theorem getU_d:∀{ks:List String} {us:List U} {vs:List V} {n:String} {k:U→Prop},getU n ks us k→RUs p σ us vs→∃u v,dget (.str n) (kz ks vs)=some v∧RU p σ u v∧k u
 |x::r,u::us,_,n,k,h,⟨v,vs,e,a,b⟩=>by
  subst e
  show ∃u' v',(if (n==x)=true then some v else dget (.str n) (kz r vs))=some v'∧RU p σ u' v'∧k u'
  have h:cond (n==x) (k u) (getU n r us k):=h
  cases z:n==x with
  |true=>rw [z] at h;exact ⟨u,v,rfl,a,h⟩
  |false=>rw [z] at h;exact getU_d (ks:=r) h b
 | [],[],_,_,_,h,_ | [],_::_,_,_,_,h,_ |_::_,[],_,_,_,h,_=>h.elim
theorem getU_f:∀{ks:List String} {us:List U} {vs:List V} {n:String} {k:U→Prop},getU n ks us k→RUs p σ us vs→∃u v,fget n (ks.zip vs)=some v∧RU p σ u v∧k u
 |x::r,u::us,_,n,k,h,⟨v,vs,e,a,b⟩=>by
  subst e
  show ∃u' v',(if (n==x)=true then some v else fget n (r.zip vs))=some v'∧RU p σ u' v'∧k u'
  have h:cond (n==x) (k u) (getU n r us k):=h
  cases z:n==x with
  |true=>rw [z] at h;exact ⟨u,v,rfl,a,h⟩
  |false=>rw [z] at h;exact getU_f (ks:=r) h b
 | [],[],_,_,_,h,_ | [],_::_,_,_,_,h,_ |_::_,[],_,_,_,h,_=>h.elim
theorem flat_same (h:RU p σ u v)(h':RU p σ u w)(f:flatU u=true):w=v∧leaf v=true:=by
 cases u<;>first |(cases f;done) |(cases h;cases h';exact ⟨rfl,rfl⟩)
theorem sameDict_ok {kt:List String}{ut:List U}{wt:List V}(ht:RUs p σ ut wt):∀{ks:List String} {us:List U} {vs:List V},sameDict kt ut ks us→RUs p σ us vs→dSame (kz kt wt) (kz ks vs)
 | [],[],_,_,e=>by rw [show _=[] from e];trivial
 |x::r,u::us,_,h,e=>e.elim fun v e=>e.elim fun vs e=>by
  rw [e.1]
  exact ⟨(getU_d h.1 ht).elim fun w y=>y.elim fun w' y=>have f:=flat_same e.2.1 (y.2.2.1▸y.2.1) y.2.2.2;⟨f.1▸y.1,f.2⟩,sameDict_ok ht h.2 e.2.2⟩
 | [],_::_,_,h,_ |_::_,[],_,h,_=>h.elim
theorem zEqU_ok {a b:Nat}{R':Bool→Prop}(h:zEqU x y R)(r:RU p σ x (.ref a))(r':RU p σ y (.ref b))(q:∀c,R c→R' c):wpEq a b σ R':=by
 unfold zEqU at h
 refine h.h.elim (fun h=>?_) fun h=>h.elim (fun h=>h.elim fun l h=>?_) fun h=>h.elim fun ks h=>h.elim fun us h=>h.elim fun kt h=>h.elim fun ut h=>?_
 ·rw [←h.1] at r'
  exact .same ((same_of 32 r r' h.2.1).resolve_left fun z=>nomatch z.2) (q _ h.2.2)
 ·rw [h.1] at r;rw [h.2.1] at r'
  refine r.elim fun c r=>r.elim fun vs r=>r'.elim fun d r'=>r'.elim fun ws r'=>?_
  cases r.1;cases r'.1
  have e:ws=[]:=r'.2.2
  refine .nil _ _ vs r.2.1 (e▸r'.2.1) (q _ ?_)
  have:=r.2.2.len
  cases l with
  |nil=>cases vs with
   |nil=>exact h.2.2.2
   |cons=>cases this
  |cons=>cases vs with
   |nil=>cases this
   |cons=>exact h.2.2.2
 ·rw [h.1] at r;rw [h.2.1] at r'
  refine r.elim fun c r=>r.elim fun vs r=>r'.elim fun d r'=>r'.elim fun ws r'=>?_
  cases r.1;cases r'.1
  exact .dict _ _ _ _ r.2.1 r'.2.1 strKeys_kz strKeys_kz (by rw [kz_len r.2.2.1,kz_len r'.2.2.1];exact h.2.2.1) (sameDict_ok r'.2.2.2 h.2.2.2.2.1 r.2.2.2) (q _ h.2.2.2.2.2)
theorem beq_dec {α:Type}[BEq α][LawfulBEq α][DecidableEq α](a b:α):(a==b)=decide (a=b):=by
 cases z:a==b with
 |true=>exact (decide_eq_true (eq_of_beq z)).symm
 |false=>exact (decide_eq_false (ne_of_beq_false z)).symm
theorem beq_of {α:Type}[BEq α][LawfulBEq α][DecidableEq α]{a b:α}{R:Bool→Prop}(h:brd (a=b) R):R (a==b):=(beq_dec a b).symm▸(show R (decide (a=b)) from brd_of h)
theorem bne_of {α:Type}[BEq α][LawfulBEq α][DecidableEq α]{a b:α}{R:Bool→Prop}(h:brd (¬a=b) R):R (a != b):=by
 have e:(a != b)=decide (¬a=b):=by rw [bne,beq_dec,decide_not]
 exact e▸brd_of h
theorem zEq_ok {R':Bool→Prop}(h:zEq x y R)(r:RU p σ x v)(r':RU p σ y w)(q:∀c,R c→R' c):wpCmp .eq v w σ R':=by
 cases x<;>first |exact h.elim |skip
 ·cases r;exact asIZ_ (P:=fun w=>wpCmp .eq _ w σ R') h r' fun b h=>q _ (beq_of h)
 ·cases r;exact asBZ_ (P:=fun w=>wpCmp .eq _ w σ R') h r' fun b h=>q _ (beq_of h)
 ·obtain ⟨a,vs,rfl,g,r⟩:=r
  exact asLZ_ (P:=fun w=>wpCmp .eq _ w σ R') h r' fun b ws l g' r' h=>zEqU_ok h ⟨_,_,rfl,g,r⟩ ⟨_,_,rfl,g',r'⟩ q
theorem zNe_ok {R':Bool→Prop}(h:zNe x y R)(r:RU p σ x v)(r':RU p σ y w)(q:∀c,R c→R' c):wpCmp .ne v w σ R':=by
 cases x<;>first |exact h.elim |skip
 ·cases r;exact isN_ (T:=fun w=>wpCmp .ne _ w σ R') h r' fun h=>q _ h
 ·cases r;exact asIZ_ (P:=fun w=>wpCmp .ne _ w σ R') h r' fun b h=>q _ (bne_of h)
 ·cases r;exact asBZ_ (P:=fun w=>wpCmp .ne _ w σ R') h r' fun b h=>q _ (bne_of h)
 ·obtain ⟨a,vs,rfl,g,r⟩:=r
  cases y<;>first |exact h.elim |skip
  ·cases r';exact ⟨_,_,g,q _ h⟩
  ·obtain ⟨b,ws,rfl,g',r'⟩:=r';exact zEqU_ok (x:=.list _) (y:=.list _) (R:=fun r=>R (!r)) h ⟨_,_,rfl,g,r⟩ ⟨_,_,rfl,g',r'⟩ fun c=>q _
 ·cases y<;>first |exact h.elim |skip
  obtain ⟨a,vs,rfl,r⟩:=r
  obtain ⟨b,ws,rfl,r'⟩:=r';exact zEqU_ok (x:=.dict _ _) (y:=.dict _ _) (R:=fun r=>R (!r)) h ⟨_,_,rfl,r⟩ ⟨_,_,rfl,r'⟩ fun c=>q _
theorem flatInU_ {P:U→U→Prop}{x u:U}(h:flatInU x u=true)(nn:P .none .none)(ni:∀b,P .none (.int b))(nb:∀b,P .none (.bytes b))(ii:∀a b,P (.int a) (.int b))(bb:∀a b,P (.bytes a) (.bytes b)):P x u:=by
 cases x with
 |none=>cases u with
  |none=>exact nn
  |int b=>exact ni b
  |bytes b=>exact nb b
  |_=>exact absurd h Bool.false_ne_true
 |int a=>cases u with
  |int b=>exact ii a b
  |_=>exact absurd h Bool.false_ne_true
 |bytes a=>cases u with
  |bytes b=>exact bb a b
  |_=>exact absurd h Bool.false_ne_true
 |_=>exact absurd h Bool.false_ne_true
theorem flat_eq {x u:U}{v w v' w':V}(r:v=v')(r':w=w')(h:flatIn v' w'=true∧flatEqU x u=flatEq v' w'):flatIn v w=true∧flatEqU x u=flatEq v w:=by rw [r,r'];exact h
theorem flat_in1 {x u:U}{v w:V}(r:RU p σ x v)(r':RU p σ u w)(h:flatInU x u=true):flatIn v w=true∧flatEqU x u=flatEq v w:=by
 revert r r'
 exact flatInU_ (P:=fun x u=>RU p σ x v→RU p σ u w→flatIn v w=true∧flatEqU x u=flatEq v w) h (fun r r'=>flat_eq r r' ⟨rfl,rfl⟩) (fun ω r r'=>flat_eq r r' ⟨rfl,rfl⟩) (fun ω r r'=>flat_eq r r' ⟨rfl,rfl⟩) (fun ω ω r r'=>flat_eq r r' ⟨rfl,rfl⟩) fun ω ω r r'=>flat_eq r r' ⟨rfl,rfl⟩
theorem zIn_flat:∀{us:List U} {vs:List V},RU p σ x v→us.all (flatInU x)=true→RUs p σ us vs→vs.all (flatIn v)=true∧us.any (flatEqU x)=vs.any (flatEq v)
 | [],_,_,_,e=>by rw [show _=[] from e];exact ⟨rfl,rfl⟩
 |u::us,_,rx,h,e=>e.elim fun w e=>e.elim fun ws e=>by
  rw [e.1,List.all_cons,List.any_cons,List.any_cons]
  have h:=Bool.and_eq_true_iff.mp h
  have i:=zIn_flat rx h.2 e.2.2
  have f:=flat_in1 rx e.2.1 h.1
  rw [i.1,i.2,f.1,f.2]
  exact ⟨rfl,rfl⟩
theorem zIn_of {us:List U}(h:zIn x us R):gd (us.all (flatInU x)=true) (R (us.any (flatEqU x))):=by unfold zIn at h;exact h.h
theorem zIn_ok {R':Bool→Prop}(h:seqU y fun us=>zIn x us R)(r:RU p σ x v)(r':RU p σ y w)(q:∀c,R c→R' c):wpIn v w σ R':=
 seqU_ (P:=fun w=>wpIn v w σ R') h r' fun a vs l g r' h=>
  have h:=gd_of (zIn_of h)
  have f:=zIn_flat r h.1 r'
  .seq _ _ rfl g f.1 (f.2▸q _ h.2)
theorem zCmp_ok {op:COp}{R':Bool→Prop}(h:zCmp op x y R)(r:RU p σ x v)(r':RU p σ y w)(q:∀c,R c→R' c):wpCmp op v w σ R':=by
 cases op with
 |eq=>exact zEq_ok h r r' q
 |ne=>exact zNe_ok h r r' q
 |lt=>exact int2_ (P:=fun v w=>wpCmp .lt v w σ R') h r r' fun a b h=>q _ (brd_of h)
 |le=>exact int2_ (P:=fun v w=>wpCmp .le v w σ R') h r r' fun a b h=>q _ (brd_of h)
 |gt=>exact int2_ (P:=fun v w=>wpCmp .gt v w σ R') h r r' fun a b h=>q _ (brd_of h)
 |ge=>exact int2_ (P:=fun v w=>wpCmp .ge v w σ R') h r r' fun a b h=>q _ (brd_of h)
 |is=>exact isN_ (T:=fun w=>wpCmp .is v w σ R') h r' fun h=>⟨r.nu,by
   have:=isN_v r▸q _ h
   cases v<;>exact this⟩
 |isnt=>exact isN_ (T:=fun w=>wpCmp .isnt v w σ R') h r' fun h=>⟨r.nu,by
   have:=isN_v r▸q _ h
   cases v<;>exact this⟩
 |inn=>exact zIn_ok h r r' q
 |nin=>exact zIn_ok (R':=fun r=>R' (!r)) h r r' fun c=>q _
theorem zSub_ok (h:zSub x y fun u=>Q u K)(s:SSt p σ K)(r:RU p σ x v)(r':RU p σ y w)(q:PQ p σ Q Q'):wpSub v w σ Q':=by
 have go:∀{us a vs},isSeq σ a vs→RUs p σ us vs→asIZ y (fun k=>gd (0≤k∧k≤1000000) (nthU us k.toNat fun u=>Q u K))→wpSub (.ref a) w σ Q':=fun {us a vs} g r h=>
  asIZ_ (P:=fun w=>wpSub (.ref a) w σ Q') h r' fun k h=>by
   have h:=gd_of h
   obtain ⟨u,v,e,ru,h'⟩:=r.nth _ h.2
   exact .inl ⟨_,_,g,h.1,e,q.val s ru h'⟩
 cases x with
 |bytes l=>cases r;exact asIZ_ (P:=fun w=>wpSub (.bytes l) w σ Q') h r' fun k h=>⟨h.1,q.val (u:=.int _) s rfl h.2⟩
 |dict ks us=>
  obtain ⟨a,vs,rfl,g,lv,r⟩:=r
  exact asSZ_ (P:=fun w=>wpSub (.ref a) w σ Q') h r' fun n h=>by
   obtain ⟨u,v,e,ru,h'⟩:=getU_d h r
   exact ⟨_,_,_,g,strKeys_kz,e,q.val s ru h'⟩
 |tup us=>obtain ⟨a,vs,rfl,g,r⟩:=r;exact go (.inl g) r h
 |list us=>obtain ⟨a,vs,rfl,g,r⟩:=r;exact go (.inr ⟨_,g⟩) r h
 |_=>exact asIZ_ (P:=fun ω=>wpSub v w σ Q') h r' fun ω h=>h.elim
theorem opt2_ {lo hi:Option Int}{k:Int→Int→Prop}(h:opt2 lo hi k):∃i j,lo=some i∧hi=some j∧k i j:=by
 cases lo<;>cases hi<;>first |exact h.elim |exact ⟨_,_,rfl,rfl,h⟩
theorem RUs.cut {l:List U}{vs:List V}(r:RUs p σ l vs)(i j:Int):RUs p σ (cut l (some i) (some j)) (cut vs (some i) (some j)):=by
 unfold Internal.cut
 rw [r.len]
 exact (r.drop _).take _
theorem zSlc_ok {lo hi:Option Int}(h:zSlc lo hi x fun u=>Q u K)(s:SSt p σ K)(r:RU p σ x v)(q:PQ p σ Q Q'):wpSlc lo hi v σ Q':=by
 unfold zSlc at h
 replace h:=h.h
 cases x<;>first |exact h.elim |skip
 ·cases r;exact ⟨h.1,q.val (u:=.bytes _) s rfl h.2⟩
 ·refine r.elim fun a r=>r.elim fun vs r=>(opt2_ h).elim fun i h=>h.elim fun j h=>?_
  have k:=gd_of h.2.2
  rw [r.1]
  exact .inl ⟨_,i,j,h.1,h.2.1,r.2.1,⟨k.1.1,k.1.2.1,r.2.2.len.trans k.1.2.2⟩,q.al (u:=.tup _) s (fun c σ' e g=>⟨c,_,rfl,g,((r.2.2.drop _).take _).cold e.cold⟩) k.2⟩
 ·refine r.elim fun a r=>r.elim fun vs r=>(opt2_ h).elim fun i h=>h.elim fun j h=>?_
  have k:=gd_of h.2.2
  rw [r.1,h.1,h.2.1]
  exact .inr ⟨_,_,r.2.1,r.2.2.len.symm▸k.1,q.al (u:=.list _) s (fun c σ' e g=>⟨c,_,rfl,g,(r.2.2.cut i j).cold e.cold⟩) k.2⟩
theorem zLen_ok (h:zLen x fun u=>Q u K)(s:SSt p σ K)(r:RU p σ x v)(q:PQ p σ Q Q'):wpLen v σ Q':=by
 have go:∀{us a vs},isSeq σ a vs→RUs p σ us vs→(us.length≤1000000∧Q (.int us.length) K)→wpLen (.ref a) σ Q':=fun g r h=>
  .inl ⟨_,g,by rw [r.len];exact h.1,by rw [r.len];exact q.val (u:=.int _) s rfl h.2⟩
 cases x<;>first |exact h.elim |skip
 ·cases r;exact ⟨h.1,q.val (u:=.int _) s rfl h.2⟩
 ·obtain ⟨a,vs,rfl,g,r⟩:=r;exact go (.inl g) r h
 ·obtain ⟨a,vs,rfl,g,r⟩:=r;exact go (.inr ⟨_,g⟩) r h
theorem zIsi_ok {t:Ty}(h:zIsi t x fun u=>Q u K)(s:SSt p σ K)(r:RU p σ x v)(q:PQ p σ Q Q'):wpIsi t v σ Q':=by
 cases x<;>first |exact h.elim |skip
 ·cases r;cases t<;>first |exact h.elim |exact q.val (u:=.bool _) s rfl h
 ·cases r;cases t<;>first |exact h.elim |exact q.val (u:=.bool _) s rfl h
 ·obtain ⟨a,vs,rfl,g,r⟩:=r
  cases t<;>first |exact h.elim |exact ⟨_,_,g,q.val (u:=.bool _) s rfl h⟩
theorem RUs.ints' {ns:List Int}:∀{vs},RUs p σ (ns.map U.int) vs→vs=ns.map V.int:=by
 induction ns with
 |nil=>intro vs h;exact h
 |cons n r ih=>rintro _ ⟨v,vs,rfl,e,h⟩;cases e;exact congrArg (V.int n::·) (ih h)
theorem RUs.bytes' {ls:List (List UInt8)}:∀{vs},RUs p σ (ls.map U.bytes) vs→vs=ls.map V.bytes:=by
 induction ls with
 |nil=>intro vs h;exact h
 |cons n r ih=>rintro _ ⟨v,vs,rfl,e,h⟩;cases e;exact congrArg (V.bytes n::·) (ih h)
theorem zByt_ok (h:zByt x fun u=>Q u K)(s:SSt p σ K)(r:RU p σ x v)(q:PQ p σ Q Q'):wpByt v σ Q':=by
 unfold zByt at h
 replace h:=h.h
 cases x<;>first |exact h.elim |skip
 ·cases r;exact ⟨h.1,q.val (u:=.bytes _) s rfl h.2⟩
 ·obtain ⟨a,vs,rfl,g,r⟩:=r
  obtain ⟨ns,rfl,h1,h2,h3⟩:=h
  cases r.ints'
  exact ⟨_,_,g,h1,h2,q.val (u:=.bytes _) s rfl h3⟩
theorem zJoin_ok (h:zJoin x fun u=>Q u K)(s:SSt p σ K)(r:RU p σ x v)(q:PQ p σ Q Q'):wpJoin v σ Q':=by
 unfold zJoin at h
 exact asLZ_ (P:=fun v=>wpJoin v σ Q') h.h r fun a vs l g r h=>by
  obtain ⟨ls,rfl,h1,h2,h3⟩:=h
  cases r.bytes'
  exact ⟨_,_,g,h1,h2,q.val (u:=.bytes _) s rfl h3⟩
theorem getU_has:∀{ks:List String} {us:List U} {n:String} {k:U→Prop},getU n ks us k→ks.contains n=true
 |x::r,u::us,n,k,h=>by
  have h:cond (n==x) (k u) (getU n r us k):=h
  show (n==x||r.contains n)=true
  cases z:n==x with
  |true=>rfl
  |false=>rw [z] at h;exact getU_has (ks:=r) h
 | [],[],_,_,h | [],_::_,_,_,h |_::_,[],_,_,h=>h.elim
theorem attr_names {C n}{us:List U}{k:U→Prop}(h:getU n (namesOf C) us k):attrOK (clsAddr C) n=true:=by
 have c:=getU_has h
 rcases C with _ |_ |_ |_ |_ |_ |_ |C<;>first |exact c |(cases c;done)
theorem zAtt_ok {n:String}(h:zAtt n x fun u=>Q u K)(s:SSt p σ K)(r:RU p σ x v)(q:PQ p σ Q Q'):wpAtt n v σ Q':=by
 unfold zAtt at h
 replace h:=h.h
 cases x<;>first |exact h.elim |skip
 exact r.elim fun a r=>r.elim fun dx r=>r.elim fun vs r=>(getU_f h r.2.2.2).elim fun u z=>z.elim fun w z=>by
  rw [r.1];exact ⟨_,_,_,_,r.2.1,r.2.2.1,attr_names h,z.1,q.val s z.2.1 z.2.2⟩
end
end Internal
end
section
namespace Internal
section
variable {p:Pm}{σ σ' σe:Sto}{K K':KS}{Q:ZQ}{Q':PX}{E:ZE}{E':PE}{u:U}{v w:V}{ρ:List Sl}{μ:List V}
noncomputable def RSl (p:Pm)(σe σ:Sto):Sl→V→Prop
 |.unb,_=>True
 |.val u,v=>RU p σ u v
 |.grow l,v=>∃a vs,v=.ref a∧σe a=none∧σ a=some (.list true vs)∧RUs p σ l vs
 |.gdict ks l,v=>∃a vs,v=.ref a∧σe a=none∧σ a=some (.dict true (kz ks vs))∧ks.length=vs.length∧RUs p σ l vs
inductive EV (p:Pm)(σe σ:Sto):List Sl→List V→Prop
 |nil:EV p σe σ [] []
 |cons {s v r μ}:RSl p σe σ s v→EV p σe σ r μ→EV p σe σ (s::r) (v::μ)
structure Sit (p:Pm)(σe σ:Sto)(ρ:List Sl)(μ:List V)(K:KS):Prop where
 ev:EV p σe σ ρ μ
 st:SSt p σ K
 se:∀a∈p.W,σe a≠none
theorem RSl.up {s:Sl}(h:RSl p σe σ s v)(c:Cold σ σ')(e:Ext p.W σ σ')(se:∀a∈p.W,σe a≠none):RSl p σe σ' s v:=by
 cases s with
 |unb=>trivial
 |val u=>exact RU.cold c h
 |grow l=>obtain ⟨a,vs,e0,n,g,r⟩:=h;exact ⟨a,vs,e0,n,e _ _ (fun m=>se a m n) g,r.cold c⟩
 |gdict ks l=>obtain ⟨a,vs,e0,n,g,l,r⟩:=h;exact ⟨a,vs,e0,n,e _ _ (fun m=>se a m n) g,l,r.cold c⟩
theorem Sit.up (s:Sit p σe σ ρ μ K)(e:Ext p.W σ σ')(t:SSt p σ' K'):Sit p σe σ' ρ μ K':=
 ⟨EV.rec (motive:=fun ρ μ ω=>EV p σe σ' ρ μ) .nil (fun h ω i=>.cons (h.up (s.st.cold e) e s.se) i) s.ev,t,s.se⟩
theorem EV.ix (h:EV p σe σ ρ μ):∀i,RSl p σe σ (ixS ρ i) (μ.getD i .unb)∧(i<ρ.length→μ[i]? = some (μ.getD i .unb)):=by
 induction h with
 |nil=>exact fun i=>⟨trivial,nofun⟩
 |cons h _ ih=>exact fun |0=>⟨h,fun ω=>rfl⟩ |i+1=>⟨(ih i).1,fun k=>(ih i).2 (Nat.lt_of_succ_lt_succ k)⟩
theorem ixS_lt:∀{ρ:List Sl} {i:Nat},ixS ρ i≠.unb→i<ρ.length
 | [],_,h=>absurd rfl h
 |_::_,0,_=>Nat.zero_lt_succ _
 |_::r,i+1,h=>Nat.succ_lt_succ (ixS_lt (ρ:=r) h)
theorem EV.at {i:Nat}{s:Sl}(h:EV p σe σ ρ μ)(e:ixS ρ i=s)(n:s≠.unb):∃v,μ[i]? = some v∧RSl p σe σ s v:=by
 subst e
 exact ⟨_,(h.ix i).2 (ixS_lt n),(h.ix i).1⟩
theorem vl_ {s:Sl}{k:U→Prop}(h:vl s k):∃u,s=.val u∧k u:=by
 cases s<;>first |exact h.elim |exact ⟨_,rfl,h⟩
theorem EV.app {ρ':List Sl}{μ':List V}(h:EV p σe σ ρ μ)(h':EV p σe σ ρ' μ'):EV p σe σ (ρ++ρ') (μ++μ'):=
 EV.rec (motive:=fun ρ μ ω=>EV p σe σ (ρ++ρ') (μ++μ')) h' (fun h ω i=>.cons h i) h
theorem EV.vals:∀{us:List U} {vs:List V},RUs p σ us vs→EV p σe σ (us.map Sl.val) vs
 | [],_,e=>by cases e;exact .nil
 |_::_,_,⟨v,vs,e,h,r⟩=>by cases e;exact .cons h (EV.vals r)
theorem EV.caps (h:EV p σe σ ρ μ):∀(cs:List Nat),EV p σe σ (capsS ρ cs) (cs.map fun i=>μ.getD i .unb)
 | []=>.nil
 |i::r=>.cons (h.ix i).1 (EV.caps h r)
theorem ofV_ {P:Prop}{k:U→Prop}(s:SSt p σ K)(h:ofV v k)(f:∀u,RU p σ u v→k u→P):P:=by
 cases v with
 |unb=>exact h.elim
 |none=>exact f .none rfl h
 |bool b=>exact f (.bool b) rfl h
 |int b=>exact f (.int b) rfl h
 |bytes b=>exact f (.bytes b) rfl h
 |str b=>exact f (.str b) rfl h
 |ref a=>
 have h:cond (Nat.beq a 383) (k (.tup sizesU)) (cond (Nat.beq a 384) (k (.tup (namesS.map U.str))) False):=h
 cases z:Nat.beq a 383 with
 |true=>
  rw [z] at h;cases Nat.eq_of_beq_eq_true z
  exact f (.tup sizesU) ⟨_,_,rfl,s.t3,RUs.ints (fun i=>i) [0,1,55,56]⟩ h
 |false=>
  cases z':Nat.beq a 384 with
  |true=>
   rw [z,z'] at h;cases Nat.eq_of_beq_eq_true z'
   exact f (.tup (namesS.map U.str)) ⟨_,_,rfl,s.t4,RUs.strs namesS⟩ h
  |false=>rw [z,z'] at h;exact h.elim
theorem ksOf_:∀{kk:List U} {vs:List V} {k:List String→Prop},ksOf kk k→RUs p σ kk vs→∃ks,vs=ks.map V.str∧k ks
 | [],_,_,h,e=>by cases e;exact ⟨[],rfl,h⟩
 |.str x::r,_,k,h,⟨v,vs,e,e',q⟩=>by
  cases e;cases e'
  obtain ⟨ks,e,h⟩:=ksOf_ (kk:=r) (k:=fun ks=>k (x::ks)) h q
  exact ⟨x::ks,congrArg (V.str x::·) e,h⟩
 |.none::_,_,_,h,_ |.bool _::_,_,_,h,_ |.int _::_,_,_,h,_ |.bytes _::_,_,_,h,_ |.tup _::_,_,_,h,_ |.list _::_,_,_,h,_ |.dict _ _::_,_,_,h,_ |.obj _ _::_,_,_,h,_ |.well::_,_,_,h,_ |.dig::_,_,_,h,_=>h.elim
theorem hasK_any {x:String}:∀{ks:List String} {vs:List V},ks.length=vs.length→((kz ks vs).any fun q=>keyEq (.str x) q.1)=hasK x ks
 | [],[],_=>rfl
 |y::r,v::vs,h=>by
  show (x==y||((kz r vs).any fun q=>keyEq (.str x) q.1))=cond (x==y) true (hasK x r)
  rw [hasK_any (Nat.succ.inj h)]
  cases x==y<;>rfl
 | [],_::_,h |_::_,[],h=>nomatch h
theorem str_all (ks:List String):(ks.map V.str).all V.isStr=true:=by
 induction ks with
 |nil=>rfl
 |cons x r ih=>exact ih
theorem fresh_kz:∀{ks:List String} {vs:List V} (a:List (V×V)),ks.length=vs.length→freshK ks=true→(∀x∈ks,(a.any fun q=>keyEq (.str x) q.1)=false)→kfresh a (kz ks vs)=true
 | [],[],_,_,_,_=>rfl
 |x::r,v::vs,a,h,f,n=>by
  have f:cond (hasK x r) false (freshK r)=true:=f
  cases z:hasK x r with
  |true=>rw [z] at f;cases f
  |false=>
   rw [z] at f
   show (!(a.any fun q=>keyEq (.str x) q.1)&&kfresh (a++[(.str x,v)]) (kz r vs))=true
   rw [n x (.head _)]
   refine fresh_kz _ (Nat.succ.inj h) f fun y m=>?_
   rw [List.any_append,n y (.tail _ m)]
   show ((y==x)||false)=false
   cases w:y==x with
   |false=>rfl
   |true=>
    have w:=eq_of_beq w
    subst w
    have:∀{r:List String},y∈r→hasK y r=true:=fun {r} m=>by
     induction m with
     |head=>show cond (y==y) true _=true;rw [beq_self_eq_true];rfl
     |tail b _ ih=>show cond (y==b) true _=true;cases y==b<;>first |rfl |exact ih
    rw [this m] at z;cases z
 | [],_::_,_,h,_,_ |_::_,[],_,h,_,_=>nomatch h
theorem zIter_ok {Q:List U→Prop}{Q':List V→(Sto→Prop)→Prop}(h:zIter u Q)(r:RU p σ u v)(q:∀us vs chk,RUs p σ us vs→(∀σ',Cold σ σ'→chk σ')→Q us→Q' vs chk):wpIter v σ Q':=by
 cases u<;>first |exact h.elim |skip
 ·cases r;exact ⟨h.1,q _ _ _ (RUs.ints (fun c:UInt8=>(c.toNat:Int)) _) (fun ω ω=>trivial) h.2⟩
 ·obtain ⟨a,vs,rfl,g,r⟩:=r;exact .inl ⟨vs,g,by rw [r.len];exact h.1,q _ _ _ r (fun ω c=>c _ _ g rfl) h.2⟩
 ·obtain ⟨a,vs,rfl,g,r⟩:=r;exact .inr (.inl ⟨_,vs,g,by rw [r.len];exact h.1,q _ _ _ r (fun ω c=>⟨_,c _ _ g rfl⟩) h.2⟩)
 ·obtain ⟨a,vs,rfl,g,l,r⟩:=r
  have h:=gd_of h
  refine .inr (.inr ⟨_,g,strKeys_kz,fun z=>h.1.2 ?_,by rw [kz_len l];exact h.1.1,q _ _ _ (dkeys_kz l▸RUs.strs _) (fun ω c=>c _ _ g rfl) h.2⟩)
  have:=kz_len l
  rw [z] at this
  exact List.eq_nil_of_length_eq_zero this.symm
theorem zRange_ok {Q:List U→Prop}{Q':List V→(Sto→Prop)→Prop}(h:zRange u Q)(r:RU p σ u v)(q:∀us vs chk,RUs p σ us vs→(∀σ',Cold σ σ'→chk σ')→Q us→Q' vs chk):wpRange v Q':=
 asIZ_ (P:=fun v=>wpRange v Q') h r fun n h=>⟨h.1.1,h.1.2,q _ _ _ (RUs.ints (fun i:Nat=>(i:Int)) _) (fun ω ω=>trivial) h.2⟩
theorem zCL_ok {step:U→List U→KS→(List U→KS→Prop)→Prop}{step':V→List V→Sto→(List V→Sto→Prop)→Prop}{chk:Sto→Prop}{Q:List U→KS→Prop}{Q':List V→Sto→Prop}
  (hchk:∀σ',Ext p.W σ σ'→chk σ')(hQ:∀rs vs K σ',Ext p.W σ σ'→SSt p σ' K→RUs p σ' rs vs→Q rs K→Q' vs σ')
  (hs:∀x v acc acc' K σ1 k k',Ext p.W σ σ1→SSt p σ1 K→RU p σ1 x v→RUs p σ1 acc acc'→step x acc K k→(∀rs vs K' σ2,Ext p.W σ1 σ2→SSt p σ2 K'→RUs p σ2 rs vs→k rs K'→k' vs σ2)→step' v acc' σ1 k') :
  ∀{us vs acc acc' K σ1},Ext p.W σ σ1→SSt p σ1 K→RUs p σ1 us vs→RUs p σ1 acc acc'→zCL step us acc K Q→wpCL chk step' vs acc' σ1 Q'
 | [],_,_,_,_,σ1,e,s,r,ra,h=>by cases r;exact ⟨hchk _ e,hQ _ _ _ _ e s ra h⟩
 |x::us,_,_,_,_,σ1,e,s,⟨v,vs,e0,rx,r⟩,ra,h=>by
  cases e0
  exact ⟨hchk _ e,hs _ _ _ _ _ _ _ _ e s rx ra h fun rs ws K' σ2 e2 s2 r2 h2=>zCL_ok hchk hQ hs (e.trans e2) s2 (r.cold (s.cold e2)) r2 h2⟩
end
end Internal
end
section
namespace Internal
noncomputable def PL (p:Pm)(σ:Sto)(Q:List U→KS→Prop)(Q':List V→Sto→Prop):Prop:=∀us K vs σ',Ext p.W σ σ'→SSt p σ' K→RUs p σ' us vs→Q us K→Q' vs σ'
noncomputable def ZPT (p:Pm)(σ:Sto)(R:Bool→KS→Prop)(R':Bool→Sto→Prop):Prop:=∀b K σ',Ext p.W σ σ'→SSt p σ' K→R b K→R' b σ'
structure CW (p:Pm)(ch:CZ)(cw:Ch):Prop where
 f:∀{f us vs K σ Q E Q' E'},ch.f f us K Q E→RUs p σ us vs→SSt p σ K→PQ p σ Q Q'→PEz p σ E E'→cw.f f vs σ Q' E'
 i:∀{c us vs K σ} {Q:ZQ} {Q' E'},zMk c us (fun u=>Q u K)→RUs p σ us vs→SSt p σ K→PQ p σ Q Q'→∀dx a,σ dx=none→σ a=none→dx≠a→∀σ',Ext [] σ σ'→σ' dx=some (.idict [])→σ' a=some (.inst (clsAddr c) dx)→cw.i c (.ref a::vs) σ' (fun r σ=>r=.none∧Q' (.ref a) σ) E'
 o:∀{us vs K σ Q Q' E'},ch.o us K Q→RUs p σ us vs→SSt p σ K→PQ p σ Q Q'→cw.f 71 (.ref p.ad::vs) σ Q' E'
section
variable (p:Pm)(ch:CZ)(cw:Ch)
noncomputable def OX (x:X):Prop:=∀{σe σ ρ μ K Q E Q' E'},zX ch x ρ K Q E→Sit p σe σ ρ μ K→PQ p σ Q Q'→PEz p σ E E'→wpX cw x μ σ Q' E'
noncomputable def OXs (xs:List X):Prop:=∀{σe σ ρ μ K Q E Q' E'},zXs ch xs ρ K Q E→Sit p σe σ ρ μ K→PL p σ Q Q'→PEz p σ E E'→wpXs cw xs μ σ Q' E'
noncomputable def OT (t:T):Prop:=∀{σe σ ρ μ K R E R' E'},zT ch t ρ K R E→Sit p σe σ ρ μ K→ZPT p σ R R'→PEz p σ E E'→wpT cw t μ σ R' E'
noncomputable def OCh (xs:List X):Prop:=∀{σe σ ρ μ K R E R' E' ops l v},zCh ch xs ops l ρ K R E→RU p σ l v→Sit p σe σ ρ μ K→ZPT p σ R R'→PEz p σ E E'→wpCh cw xs ops v μ σ R' E'
noncomputable def OAnd (ts:List T):Prop:=∀{σe σ ρ μ K R E R' E'},zAnd ch ts ρ K R E→Sit p σe σ ρ μ K→ZPT p σ R R'→PEz p σ E E'→wpAnd cw ts μ σ R' E'
noncomputable def OOr (ts:List T):Prop:=∀{σe σ ρ μ K R E R' E'},zOr ch ts ρ K R E→Sit p σe σ ρ μ K→ZPT p σ R R'→PEz p σ E E'→wpOr cw ts μ σ R' E'
end
section
variable {p:Pm}{ch:CZ}{cw:Ch}
theorem PL.up {σ σ' Q Q'}(q:PL p σ Q Q')(e:Ext p.W σ σ'):PL p σ' Q Q':=fun u K v s a=>q u K v s (e.trans a)
theorem ZPT.up {σ σ' Q Q'}(q:ZPT p σ Q Q')(e:Ext p.W σ σ'):ZPT p σ' Q Q':=fun u K s a=>q u K s (e.trans a)
theorem o_loc (i:Nat):OX p ch cw (.loc i):=fun z s q ω=>by
 obtain ⟨u,e,h⟩:=vl_ z
 obtain ⟨v,e,r⟩:=s.ev.at e nofun
 exact ⟨v,e,RU.nu r,q.val s.st r h⟩
theorem o_cst (v:V):OX p ch cw (.cst v):=fun z s q ω=>ofV_ s.st z fun ω r h=>q.val s.st r h
theorem o_glo (x:String)(v:V):OX p ch cw (.glo x v):=fun z s q ω=>ofV_ s.st z fun ω r h=>q.val s.st r h
theorem o_bin (op:BOp){a b:X}(ha:OX p ch cw a)(hb:OX p ch cw b):OX p ch cw (.bin op a b):=fun z s q e=>
 ha z s (fun ω ω ω ω e1 s1 r1 z=>hb z (s.up e1 s1) (fun ω ω ω ω e2 s2 r2 z=>zBin_ok z s2 (RU.cold (s1.cold e2) r1) r2 (q.up (e1.trans e2))) (e.up e1)) e
theorem o_neg {a:X}(ha:OX p ch cw a):OX p ch cw (.neg a):=fun {_ _ _ μ _ _ _ Q' E'} z s q e=>
 ha z s (fun ω ω ω σ1 e1 s1 r1 z=>asIZ_ (P:=fun v=>vI v fun i=>Q' (.int (-i)) σ1) z r1 fun i h=>(q.up e1).val (u:=.int _) s1 rfl h) e
theorem o_cmp (op:COp){a b:X}(ha:OX p ch cw a)(hb:OX p ch cw b):OX p ch cw (.cmp a op b):=fun z s q e=>
 ha z s (fun ω ω ω ω e1 s1 r1 z=>hb z (s.up e1 s1) (fun ω ω ω ω e2 s2 r2 z=>zCmp_ok z (RU.cold (s1.cold e2) r1) r2 fun ω h=>(q.up (e1.trans e2)).val (u:=.bool _) s2 rfl h) (e.up e1)) e
theorem o_andv {a b:X}(ha:OX p ch cw a)(hb:OX p ch cw b):OX p ch cw (.andv a b):=fun {_ _ _ μ _ _ _ Q' E'} z s q e=>
 ha z s (fun ω ω ω σ1 e1 s1 r1 z=>asTZ_ (P:=fun v=>vT v fun c=>cond c (wpX cw b μ σ1 Q' E') (Q' (.bool false) σ1)) z r1 fun c h=>cnd h (fun h=>hb h (s.up e1 s1) (q.up e1) (e.up e1)) fun h=>(q.up e1).val (u:=.bool _) s1 rfl h) e
theorem o_ite {c:T}{a b:X}(hc:OT p ch cw c)(ha:OX p ch cw a)(hb:OX p ch cw b):OX p ch cw (.ite c a b):=fun z s q e=>
 hc z s (fun ω ω ω e1 s1 z=>cnd z (fun z=>ha z (s.up e1 s1) (q.up e1) (e.up e1)) fun z=>hb z (s.up e1 s1) (q.up e1) (e.up e1)) e
theorem o_tup {xs:List X}(h:OXs p ch cw xs):OX p ch cw (.tup xs):=fun z s q e=>
 h z s (fun ω ω ω ω e1 s1 r1 z=>(q.up e1).al (u:=.tup _) s1 (fun c ω e g=>⟨c,_,rfl,g,r1.cold e.cold⟩) z) e
theorem o_lst (m:Bool){xs:List X}(h:OXs p ch cw xs):OX p ch cw (.lst m xs):=fun z s q e=>by
 cases m with
 |true=>exact z.elim
 |false=>exact h z s (fun ω ω ω ω e1 s1 r1 z=>(q.up e1).al (u:=.list _) s1 (fun c ω e g=>⟨c,_,rfl,g,r1.cold e.cold⟩) z) e
theorem o_dct (m:Bool){ks vs:List X}(hk:OXs p ch cw ks)(hv:OXs p ch cw vs):OX p ch cw (.dct m ks vs):=fun z s q e=>by
 cases m with
 |true=>exact z.elim
 |false=>exact hk z s (fun ω ω ω ω e1 s1 r1 z=>hv z (s.up e1 s1) (fun us ω vs ω e2 s2 r2 z=>by
   obtain ⟨ks,rfl,z⟩:=ksOf_ z r1
   have z:=gd_of z
   have hl:ks.length=vs.length:=by rw [r2.len];exact z.1.2
   exact ⟨str_all _,fresh_kz [] hl z.1.1 fun ω ω=>rfl,((q.up e1).up e2).al (u:=.dict ks us) s2 (fun c ω e g=>⟨c,_,rfl,g,hl,r2.cold e.cold⟩) z.2⟩) (e.up e1)) e
theorem o_sub {a b:X}(ha:OX p ch cw a)(hb:OX p ch cw b):OX p ch cw (.sub a b):=fun z s q e=>
 ha z s (fun ω ω ω ω e1 s1 r1 z=>hb z (s.up e1 s1) (fun ω ω ω ω e2 s2 r2 z=>zSub_ok z s2 (RU.cold (s1.cold e2) r1) r2 (q.up (e1.trans e2))) (e.up e1)) e
theorem slcZ_ {σ:Sto}{lo hi:Bool}{us:List U}{vs:List V}{k k':Option Int→Option Int→Prop}(h:slcZ lo hi us k)(r:RUs p σ us vs)(f:∀l h,k l h→k' l h):slcB lo hi vs k':=by
 cases us with
 |nil=>exact h.elim
 |cons u us=>
  cases us with
  |nil=>
   refine r.elim fun v r=>r.elim fun vs r=>?_
   rw [r.1,show vs=[] from r.2.2]
   exact asIZ_ (P:=fun v=>slcB lo hi [v] k') h r.2.1 fun i h=>by cases lo<;>cases hi<;>first |exact h.elim |exact f _ _ h
  |cons w us=>
   cases us with
   |nil=>
    refine r.elim fun v r=>r.elim fun vs r=>r.2.2.elim fun v' r'=>r'.elim fun vs' r'=>?_
    rw [r.1,r'.1,show vs'=[] from r'.2.2]
    exact int2_ (P:=fun v v'=>slcB lo hi [v,v'] k') h r.2.1 r'.2.1 fun i j h=>by cases lo<;>cases hi<;>first |exact h.elim |exact f _ _ h
   |cons=>exact h.elim
theorem o_slc (lo hi:Bool){a:X}{xs:List X}(ha:OX p ch cw a)(hx:OXs p ch cw xs):OX p ch cw (.slc a lo hi xs):=fun z s q e=>
 ha z s (fun ω ω ω ω e1 s1 r1 z=>hx z (s.up e1 s1) (fun ω ω ω ω e2 s2 r2 z=>slcZ_ z r2 fun l h z=>zSlc_ok z s2 (RU.cold (s1.cold e2) r1) (q.up (e1.trans e2))) (e.up e1)) e
theorem o_rev {a:X}(ha:OX p ch cw a):OX p ch cw (.rev a):=fun {_ _ _ μ _ _ _ Q' E'} z s q e=>
 ha z s (fun ω ω ω σ1 e1 s1 r1 z=>asLZ_ (P:=fun v=>vR v fun b=>∃m vs,σ1 b=some (O.list m vs)∧vs.length≤1000∧alloc (O.list false vs.reverse) σ1 Q') z r1 fun a vs l g r h=>⟨_,vs,g,by rw [r.len];exact h.1,(q.up e1).al (u:=.list _) s1 (fun c ω e g=>⟨c,_,rfl,g,r.rev.cold e.cold⟩) h.2⟩) e
theorem o_att (n:String){a:X}(ha:OX p ch cw a):OX p ch cw (.att a n):=fun z s q e=>ha z s (fun ω ω ω ω e1 s1 r1 z=>zAtt_ok z s1 r1 (q.up e1)) e
theorem o_fn (C:CW p ch cw)(f:Nat){xs:List X}(h:OXs p ch cw xs):OX p ch cw (.fn f xs):=fun z s q e=>h z s (fun ω ω ω ω e1 s1 r1 z=>C.f z r1 s1 (q.up e1) (e.up e1)) e
theorem o_mk (C:CW p ch cw)(c:Nat){xs:List X}(h:OXs p ch cw xs):OX p ch cw (.mk c xs):=fun z s q e=>h z s (fun ω ω ω ω e1 s1 r1 z dx a σ' n1 n2 n3 e3 g1 g2=>C.i z r1 s1 (q.up e1) dx a n1 n2 n3 σ' e3 g1 g2) e
theorem o_mth (C:CW p ch cw)(n:String){a:X}{xs:List X}(ha:OX p ch cw a)(h:OXs p ch cw xs):OX p ch cw (.mth a n xs):=fun {σe σ ρ μ K Q E Q' E'} z s q e=>by
 have z:cond (n == "of") (zX ch a ρ K (fun x K=>match x with |.dig=>zXs ch xs ρ K (fun us K=>ch.o us K Q) E |_=>False) E) False:=z
 cases k:n == "of" with
 |false=>rw [k] at z;exact z.elim
 |true=>
  rw [k] at z
  have k:=eq_of_beq k
  subst k
  exact ha z s (fun u ω ω ω e1 s1 r1 z=>by
   cases u<;>first |exact z.elim |skip
   cases r1
   cases s1.num with
   |mk dx g1 g2 g3=>exact ⟨_,_,_,71,g1,g2,rfl,rfl,h z (s.up e1 s1) (fun ω ω ω ω e2 s2 r2 z=>C.o z r2 s2 (q.up (e1.trans e2))) (e.up e1)⟩) e
theorem o_len {a:X}(ha:OX p ch cw a):OX p ch cw (.len a):=fun {σe σ ρ μ K Q E Q' E'} z s q e=>by
 have z:(match locN a with |some i=>zLenG (ixS ρ i) fun u=>Q u K |none=>zX ch a ρ K (fun x K=>zLen x fun u=>Q u K) E):=z
 have go:zX ch a ρ K (fun x K=>zLen x fun u=>Q u K) E→wpX cw (.len a) μ σ Q' E':=fun z=>ha z s (fun ω ω ω ω e1 s1 r1 z=>zLen_ok z s1 r1 (q.up e1)) e
 cases hl:locN a with
 |none=>rw [hl] at z;exact go z
 |some i=>
  rw [hl] at z
  have:=locN_ hl
  subst this
  have z:zLenG (ixS ρ i) fun u=>Q u K:=z
  cases hs:ixS ρ i with
  |val u=>rw [hs] at z;exact go (show vl (ixS ρ i) _ from hs.symm▸z)
  |grow us=>
   rw [hs] at z
   obtain ⟨v,e,a,vs,rfl,_,g,r⟩:=s.ev.at hs nofun
   exact ⟨_,e,nofun,.inl ⟨_,.inr ⟨_,g⟩,by rw [r.len];exact z.1,by rw [r.len];exact q.val (u:=.int _) s.st rfl z.2⟩⟩
  |_=>rw [hs] at z;exact z.elim
theorem o_isi (t:Ty){a:X}(ha:OX p ch cw a):OX p ch cw (.isi a t):=fun z s q e=>ha z s (fun ω ω ω ω e1 s1 r1 z=>zIsi_ok z s1 r1 (q.up e1)) e
theorem o_byt {a:X}(ha:OX p ch cw a):OX p ch cw (.byt a):=fun z s q e=>ha z s (fun ω ω ω ω e1 s1 r1 z=>zByt_ok z s1 r1 (q.up e1)) e
theorem o_join {a:X}(ha:OX p ch cw a):OX p ch cw (.join a):=fun z s q e=>ha z s (fun ω ω ω ω e1 s1 r1 z=>zJoin_ok z s1 r1 (q.up e1)) e
theorem o_frB {a:X}(ha:OX p ch cw a):OX p ch cw (.frB a):=fun {_ _ _ μ _ _ _ Q' E'} z s q e=>
 ha z s (fun ω ω ω σ1 e1 s1 r1 z=>asBZ_ (P:=fun v=>vB v fun l=>l.length≤1000000∧Q' (.int (valB l)) σ1) z r1 fun l h=>⟨h.1,(q.up e1).val (u:=.int _) s1 rfl h.2⟩) e
theorem o_bitl {a:X}(ha:OX p ch cw a):OX p ch cw (.bitl a):=fun {_ _ _ μ _ _ _ Q' E'} z s q e=>
 ha z s (fun ω ω ω σ1 e1 s1 r1 z=>asIZ_ (P:=fun v=>vI v fun l=>Q' (.int (bitlen l)) σ1) z r1 fun l h=>(q.up e1).val (u:=.int _) s1 rfl h) e
theorem o_toB (l:Bool){a b:X}(ha:OX p ch cw a)(hb:OX p ch cw b):OX p ch cw (.toB a b l):=fun {_ _ _ μ _ _ _ Q' E'} z s q e=>
 ha z s (fun ω ω ω σ1 e1 s1 r1 z=>asIZ_ (P:=fun v=>vI v fun i=>wpX cw b μ σ1 (fun y σ=>wpToB l (.int i) y σ Q') E') z r1 fun i h=>hb h (s.up e1 s1) (fun ω ω ω σ2 e2 s2 r2 z=>asIZ_ (P:=fun v=>wpToB l (.int i) v σ2 Q') z r2 fun k h=>
  ⟨h.1,(q.up (e1.trans e2)).val (u:=.bytes _) s2 rfl h.2⟩) (e.up e1)) e
set_option tactic.hygienic true in
theorem bindZ_ {σe σ:Sto}{k:Nat}{t:Bool}{x:U}{v:V}{Q:List Sl→Prop}{Q':List V→Prop}(h:bindZ k t x Q)(r:RU p σ x v)(f:∀ρ μ,EV p σe σ ρ μ→Q ρ→Q' μ):bindC k t v σ Q':=by
 cases t with
 |true=>
  cases x<;>first |exact h.elim |skip
  rename_i us
  obtain ⟨a,vs,rfl,g,r⟩:=r
  have h:cond (Nat.beq us.length k) (Q (us.map Sl.val)) False:=h
  cases z:Nat.beq us.length k with
  |false=>rw [z] at h;exact h.elim
  |true=>rw [z] at h;exact (if_pos rfl).mpr ⟨a,vs,rfl,g,by rw [r.len];exact Nat.eq_of_beq_eq_true z,f _ _ (EV.vals r) h⟩
 |false=>
  have h:cond (Nat.beq k 1) (Q [.val x]) False:=h
  cases z:Nat.beq k 1 with
  |false=>rw [z] at h;exact h.elim
  |true=>rw [z] at h;exact (if_neg nofun).mpr ⟨Nat.eq_of_beq_eq_true z,f [.val x] [v] (.cons r .nil) h⟩
theorem o_comp (k:Nat)(t rng:Bool){it elt:X}{ifs:List T}(nms:List String)(caps:List Nat)(hi:OX p ch cw it)(hf:OAnd p ch cw ifs)(he:OX p ch cw elt):OX p ch cw (.comp k t rng it ifs elt nms caps):=fun {σe σ ρ μ K Q E Q' E'} z s q e=>
 hi z s (fun u K1 v σ1 e1 s1 r1 z=>by
  have go:∀us vs chk,RUs p σ1 us vs→(∀σ',Cold σ1 σ'→chk σ')→zCL (fun item acc K kont=>bindZ k t item fun ws=>
     zAnd ch ifs (ws++capsS ρ caps) K (fun b K=>cond b (zX ch elt (ws++capsS ρ caps) K (fun r K=>kont (acc++[r]) K) E) (kont acc K)) E) us [] K1 (fun rs K=>Q (.list rs) K)→
    wpCL chk (fun item acc σ kont=>bindC k t item σ fun ws=>
     wpAnd cw ifs (ws++caps.map fun i=>μ.getD i .unb) σ (fun b σ=>cond b (wpX cw elt (ws++caps.map fun i=>μ.getD i .unb) σ (fun r σ=>kont (acc++[r]) σ) E') (kont acc σ)) E') vs [] σ1
     fun rs σ=>alloc (.list false rs) σ Q':=fun us vs chk r hc z=>
   zCL_ok (fun σ' e2=>hc _ (s1.cold e2)) (fun rs vs K σ' e2 s2 r2 z=>((q.up e1).up e2).al (u:=.list _) s2 (fun c ω e g=>⟨c,_,rfl,g,r2.cold e.cold⟩) z)
    (fun x v acc acc' K σ2 k k' e2 s2 rx ra z hk=>bindZ_ (σe:=σe) z rx fun ws wv hw z=>
     have S:Sit p σe σ2 _ _ K:=⟨hw.app (((s.up e1 s1).up e2 s2).ev.caps caps),s2,s.se⟩
     hf z S (fun b K σ3 e3 s3 z=>cnd (c:=b) z (fun z=>
      he z (S.up e3 s3) (fun u K v σ4 e4 s4 r4 z=>hk _ _ _ _ (e3.trans e4) s4 ((ra.cold ((s2.cold (e3.trans e4)))).snoc r4) z) (((e.up e1).up e2).up e3)) fun z=>
      hk _ _ _ _ e3 s3 (ra.cold (s2.cold e3)) z) ((e.up e1).up e2)) .refl s1 r .nil z
  cases rng with
  |true=>refine zRange_ok ?_ r1 go;exact z
  |false=>refine zIter_ok ?_ r1 go;exact z) e
theorem o_comp2 {it1 it2 elt:X}(nms:List String)(h1:OX p ch cw it1)(h2:OX p ch cw it2)(he:OX p ch cw elt):OX p ch cw (.comp2 it1 it2 elt nms):=fun {σe σ ρ μ K Q E Q' E'} z s q e=>
 h1 z s (fun u K1 v σ1 e1 s1 r1 z=>zIter_ok z r1 fun us vs chk r hc z=>
  zCL_ok (fun σ' e2=>hc _ (s1.cold e2)) (fun rs vs K σ' e2 s2 r2 z=>((q.up e1).up e2).al (u:=.list _) s2 (fun c ω e g=>⟨c,_,rfl,g,r2.cold e.cold⟩) z)
   (fun x v acc acc' K σ2 k k' e2 s2 rx ra z hk=>
    h2 z (σe:=σe) (μ:=[v,.unb]) ⟨.cons (s:=.val x) rx (.cons (s:=.unb) trivial .nil),s2,s.se⟩ (fun u2 K2 v2 σ3 e3 s3 r3 z=>zIter_ok z r3 fun us2 vs2 chk2 r4 hc2 z=>
     zCL_ok (fun σ' e4=>hc2 _ (s3.cold e4)) (fun rs vs K σ' e4 s4 r5 z=>hk _ _ _ _ (e3.trans e4) s4 r5 z)
      (fun y w acc acc' K σ4 k k' e4 s4 ry rb z hk2=>
       he z (σe:=σe) (μ:=[v,w]) ⟨.cons (s:=.val x) (RU.cold (s2.cold (e3.trans e4)) rx) (.cons (s:=.val y) ry .nil),s4,s.se⟩ (fun u K v σ5 e5 s5 r5 z=>⟨by rw [rb.len];exact z.1,hk2 _ _ _ _ e5 s5 ((rb.cold (s4.cold e5)).snoc r5) z.2⟩) ((((e.up e1).up e2).up e3).up e4))
      .refl s3 r4 (ra.cold (s2.cold e3)) z) ((e.up e1).up e2)) .refl s1 r .nil z) e
end
end Internal
end
section
namespace Internal
section
variable {p:Pm}{ch:CZ}{cw:Ch}
theorem x_nil:OXs p ch cw []:=fun z s q ω=>q _ _ _ _ .refl s.st .nil z
theorem RUs.cons {σ u v l vs}(h:RU p σ u v)(r:RUs p σ l vs):RUs p σ (u::l) (v::vs):=⟨v,vs,rfl,h,r⟩
theorem x_cons {a:X}{r:List X}(ha:OX p ch cw a)(hr:OXs p ch cw r):OXs p ch cw (a::r):=fun z s q e=>
 ha z s (fun ω ω v ω e1 s1 r1 z=>hr z (s.up e1 s1) (fun ω ω vs ω e2 s2 r2 z=>q _ _ _ _ (e1.trans e2) s2 (RUs.cons (RU.cold (s1.cold e2) r1) r2) z) (e.up e1)) e
theorem c_nil:OCh p ch cw []:=fun {_ _ _ _ _ _ _ _ _ ops _ _} z _ _ _ _=>by cases ops<;>exact z.elim
theorem c_cons {a:X}{r:List X}(ha:OX p ch cw a)(hr:OCh p ch cw r):OCh p ch cw (a::r):=fun {σe σ ρ μ K R E R' E' ops l v} z r0 s q e=>by
 have gen:∀{op ops},zX ch a ρ K (fun v K=>zCmp op l v fun b=>cond b (zCh ch r ops v ρ K R E) (R false K)) E→
   wpX cw a μ σ (fun w σ=>wpCmp op v w σ fun b=>cond b (wpCh cw r ops w μ σ R' E') (R' false σ)) E':=fun z=>
  ha z s (fun ω ω ω ω e1 s1 r1 z=>zCmp_ok z (RU.cold (s.st.cold e1) r0) r1 fun c h=>cnd h (fun h=>hr h r1 (s.up e1 s1) (q.up e1) (e.up e1)) fun h=>q _ _ _ e1 s1 h) e
 cases ops with
 |nil=>cases r<;>exact z.elim
 |cons op ops=>cases r with
  |nil=>cases ops with
   |nil=>exact ha z s (fun ω ω ω ω e1 s1 r1 z=>zCmp_ok z (RU.cold (s.st.cold e1) r0) r1 fun ω h=>q _ _ _ e1 s1 h) e
   |cons=>exact gen z
  |cons=>exact gen z
theorem t_val {x:X}(h:OX p ch cw x):OT p ch cw (.val x):=fun {_ _ _ _ _ _ _ R' _} z s q e=>
 h z s (fun ω ω ω σ1 e1 s1 r1 z=>asTZ_ (P:=fun v=>vT v fun b=>R' b σ1) z r1 fun b h=>q _ _ _ e1 s1 h) e
theorem t_not {t:T}(h:OT p ch cw t):OT p ch cw (.not t):=fun z s q e=>h z s (fun b K σ e1 s1 z=>q _ _ _ e1 s1 z) e
theorem t_ite {c a b:T}(hc:OT p ch cw c)(ha:OT p ch cw a)(hb:OT p ch cw b):OT p ch cw (.ite c a b):=fun z s q e=>
 hc z s (fun r ω ω e1 s1 z=>cnd z (fun z=>ha z (s.up e1 s1) (q.up e1) (e.up e1)) fun z=>hb z (s.up e1 s1) (q.up e1) (e.up e1)) e
theorem t_cmp {a:X}(ops:List COp){xs:List X}(ha:OX p ch cw a)(hx:OCh p ch cw xs):OT p ch cw (.cmp a ops xs):=fun z s q e=>
 ha z s (fun ω ω ω ω e1 s1 r1 z=>hx z r1 (s.up e1 s1) (q.up e1) (e.up e1)) e
theorem a_cons {t:T}{r:List T}(ht:OT p ch cw t)(hr:OAnd p ch cw r):OAnd p ch cw (t::r):=fun z s q e=>
 ht z s (fun r ω ω e1 s1 z=>cnd z (fun z=>hr z (s.up e1 s1) (q.up e1) (e.up e1)) fun z=>q _ _ _ e1 s1 z) e
theorem r_cons {t:T}{r:List T}(ht:OT p ch cw t)(hr:OOr p ch cw r):OOr p ch cw (t::r):=fun z s q e=>
 ht z s (fun r ω ω e1 s1 z=>cnd z (fun z=>q _ _ _ e1 s1 z) fun z=>hr z (s.up e1 s1) (q.up e1) (e.up e1)) e
theorem all_X (C:CW p ch cw):∀x,OX p ch cw x:=X.rec (motive_1:=OX p ch cw) (motive_2:=OT p ch cw) (motive_3:=fun xs=>OXs p ch cw xs∧OCh p ch cw xs) (motive_4:=fun ts=>OAnd p ch cw ts∧OOr p ch cw ts)
  o_loc o_glo o_cst (fun op ω ω a b=>o_bin op a b) (fun ω a=>o_neg a) (fun ω op ω a b=>o_cmp op a b) (fun ω ω a b=>o_andv a b) (fun ω ω ω c a b=>o_ite c a b) (fun ω h=>o_tup h.1) (fun m ω h=>o_lst m h.1) (fun m ω ω h k=>o_dct m h.1 k.1)
  (fun ω ω a b=>o_sub a b) (fun ω lo hi ω a b=>o_slc lo hi a b.1) (fun ω a=>o_rev a) (fun ω n a=>o_att n a) (fun f ω h=>o_fn C f h.1) (fun c ω h=>o_mk C c h.1) (fun ω n ω a h=>o_mth C n a h.1) (fun ω a=>o_len a) (fun ω t a=>o_isi t a) (fun ω a=>o_byt a)
  (fun ω ω=>fun z=>z.elim) (fun ω ω l a b=>o_toB l a b) (fun ω a=>o_frB a) (fun ω a=>o_bitl a) (fun ω a=>o_join a) (fun k t rng ω ω ω nms caps a b c=>o_comp k t rng nms caps a b.1 c) (fun ω ω ω nms a b c=>o_comp2 nms a b c)
  (fun ω h=>t_val h) (fun ω h=>t_not h) (fun ω h=>h.1) (fun ω h=>h.2) (fun ω ω ω a b c=>t_ite a b c) (fun ω ops ω a b=>t_cmp ops a b.2)
  ⟨x_nil,c_nil⟩ (fun ω ω a b=>⟨x_cons a b.1,c_cons a b.2⟩) ⟨fun z s q ω=>q _ _ _ .refl s.st z,fun z s q ω=>q _ _ _ .refl s.st z⟩ (fun ω ω a b=>⟨a_cons a b.1,r_cons a b.2⟩)
theorem all_T (C:CW p ch cw):∀t,OT p ch cw t:=T.rec (motive_1:=OX p ch cw) (motive_2:=OT p ch cw) (motive_3:=fun xs=>OXs p ch cw xs∧OCh p ch cw xs) (motive_4:=fun ts=>OAnd p ch cw ts∧OOr p ch cw ts)
  o_loc o_glo o_cst (fun op ω ω a b=>o_bin op a b) (fun ω a=>o_neg a) (fun ω op ω a b=>o_cmp op a b) (fun ω ω a b=>o_andv a b) (fun ω ω ω c a b=>o_ite c a b) (fun ω h=>o_tup h.1) (fun m ω h=>o_lst m h.1) (fun m ω ω h k=>o_dct m h.1 k.1)
  (fun ω ω a b=>o_sub a b) (fun ω lo hi ω a b=>o_slc lo hi a b.1) (fun ω a=>o_rev a) (fun ω n a=>o_att n a) (fun f ω h=>o_fn C f h.1) (fun c ω h=>o_mk C c h.1) (fun ω n ω a h=>o_mth C n a h.1) (fun ω a=>o_len a) (fun ω t a=>o_isi t a) (fun ω a=>o_byt a)
  (fun ω ω=>fun z=>z.elim) (fun ω ω l a b=>o_toB l a b) (fun ω a=>o_frB a) (fun ω a=>o_bitl a) (fun ω a=>o_join a) (fun k t rng ω ω ω nms caps a b c=>o_comp k t rng nms caps a b.1 c) (fun ω ω ω nms a b c=>o_comp2 nms a b c)
  (fun ω h=>t_val h) (fun ω h=>t_not h) (fun ω h=>h.1) (fun ω h=>h.2) (fun ω ω ω a b c=>t_ite a b c) (fun ω ops ω a b=>t_cmp ops a b.2)
  ⟨x_nil,c_nil⟩ (fun ω ω a b=>⟨x_cons a b.1,c_cons a b.2⟩) ⟨fun z s q ω=>q _ _ _ .refl s.st z,fun z s q ω=>q _ _ _ .refl s.st z⟩ (fun ω ω a b=>⟨a_cons a b.1,r_cons a b.2⟩)
theorem all_Xs (C:CW p ch cw):∀xs,OXs p ch cw xs
 | []=>x_nil
 |x::r=>x_cons (all_X C x) (all_Xs C r)
end
end Internal
end
section
namespace Internal
noncomputable def isG:Sl→Bool
  |.grow _ |.gdict _ _=>true
  |_=>false
section
variable {p:Pm}{σ σ' σe:Sto}{K K':KS}{u:U}{v w:V}{ρ:List Sl}{μ μ':List V}{s:Sl}{i:Nat}
structure SitS (p:Pm)(σe σ:Sto)(ρ:List Sl)(μ:List V)(K:KS):Prop where
  s:Sit p σe σ ρ μ K
  g:∀i j,isG (ixS ρ i)=true→isG (ixS ρ j)=true→i=j
  e:Ext p.W σe σ
theorem SSt.up2 (s:SSt p σ K)(c:Cold σ σ')(h:∀a∈p.W,σ' a=σ a):SSt p σ' K:=
  ⟨by cases s.well with |mk l i n ns a b=>exact ⟨l,i,n,ns,(h _ (.head _)).trans a,c _ _ b rfl,‹_›,‹_›,‹_›,‹_›,‹_›⟩,
   by cases s.num with |mk d a b k=>exact ⟨d,c _ _ a rfl,c _ _ b rfl,(h _ (.tail _ (.head _))).trans k⟩,s.bd,c _ _ s.t3 rfl,c _ _ s.t4 rfl⟩
theorem EV.len (h:EV p σe σ ρ μ):ρ.length=μ.length:=by
  induction h with
  |nil=>rfl
  |cons _ _ ih=>exact congrArg (· + 1) ih
theorem EV.of:∀{ρ:List Sl} {μ:List V},ρ.length=μ.length→(∀i,RSl p σe σ (ixS ρ i) (μ.getD i .unb))→EV p σe σ ρ μ
  | [],[],_,_=>.nil
  |s::ρ,v::μ,h,f=>.cons (f 0) (EV.of (Nat.succ.inj h) fun i=>f (i+1))
  | [],_::_,h,_ |_::_,[],h,_=>nomatch h
theorem setS_len:∀{ρ:List Sl} {i:Nat},(setS ρ i s).length=ρ.length
  | [],_=>rfl
  |_::_,0=>rfl
  |_::r,i+1=>congrArg (· + 1) (setS_len (ρ:=r))
theorem ixS_same:∀{ρ:List Sl} {i:Nat},i<ρ.length→ixS (setS ρ i s) i=s
  | [],_,h=>nomatch h
  |_::_,0,_=>rfl
  |_::r,i+1,h=>ixS_same (ρ:=r) (Nat.lt_of_succ_lt_succ h)
theorem ixS_other:∀{ρ:List Sl} {i j:Nat},j≠i→ixS (setS ρ i s) j=ixS ρ j
  | [],_,_,_=>rfl
  |_::_,0,0,h=>absurd rfl h
  |_::_,0,_+1,_ |_::_,_+1,0,_=>rfl
  |_::r,i+1,j+1,h=>ixS_other (ρ:=r) fun z=>h (congrArg (· + 1) z)
theorem set_other:∀{μ:List V} {i j:Nat},j≠i→(μ.set i v).getD j .unb=μ.getD j .unb
  | [],_,_,_=>rfl
  |_::_,0,0,h=>absurd rfl h
  |_::_,0,_+1,_ |_::_,_+1,0,_=>rfl
  |_::r,i+1,j+1,h=>set_other (μ:=r) fun z=>h (congrArg (· + 1) z)
theorem set_same:∀{μ:List V} {i:Nat},i<μ.length→(μ.set i v).getD i .unb=v
  | [],_,h=>nomatch h
  |_::_,0,_=>rfl
  |_::r,i+1,h=>set_same (μ:=r) (Nat.lt_of_succ_lt_succ h)
theorem one_no:∀{ρ:List Sl},one ρ=true→∀j,isG (ixS ρ j)=false
  | [],_,_=>rfl
  |.unb::_,_,0 |.val _::_,_,0=>rfl
  |.unb::r,h,j+1=>one_no (ρ:=r) h j
  |.val _::r,h,j+1=>one_no (ρ:=r) h j
theorem SitS.up (S:SitS p σe σ ρ μ K)(e:Ext p.W σ σ')(t:SSt p σ' K'):SitS p σe σ' ρ μ K':=⟨S.s.up e t,S.g,S.e.trans e⟩
theorem Ext.cold1 {a:Nat}{o:O}(e:Ext [a] σ σ')(g:σ a=some o)(hot:o.hot=true):Cold σ σ':=fun b o' h k=>e b o' (fun m=>by cases List.mem_singleton.mp m;rw [g] at h;cases h;rw [hot] at k;cases k) h
theorem SitS.put (S:SitS p σe σ ρ μ K)(hi:i<ρ.length)(t:SSt p σ' K)(e:Ext p.W σe σ')(hp:∀j,j≠i→RSl p σe σ (ixS ρ j) (μ.getD j .unb)→RSl p σe σ' (ixS ρ j) (μ.getD j .unb))
    (hg:isG s=true→∀j,j≠i→isG (ixS ρ j)=false)(hl:μ'.length=μ.length)(ho:∀j,j≠i→μ'.getD j .unb=μ.getD j .unb)(hs:RSl p σe σ' s (μ'.getD i .unb)):SitS p σe σ' (setS ρ i s) μ' K:=by
  refine ⟨⟨EV.of (by rw [setS_len,hl,S.s.ev.len]) fun j=>?_,t,S.s.se⟩,fun j k hj hk=>?_,e⟩
  · by_cases h:j=i
    · subst h;rw [ixS_same hi];exact hs
    · rw [ixS_other h,ho j h];exact hp j h (S.s.ev.ix j).1
  · by_cases h:j=i
    · by_cases h':k=i
      · rw [h,h']
      · subst h;rw [ixS_same hi] at hj;rw [ixS_other h',hg hj k h'] at hk;cases hk
    · by_cases h':k=i
      · subst h';rw [ixS_same hi] at hk;rw [ixS_other h,hg hk j h] at hj;cases hj
      · rw [ixS_other h] at hj;rw [ixS_other h'] at hk;exact S.g j k hj hk
theorem SitS.val (S:SitS p σe σ ρ μ K)(hi:i<ρ.length)(r:RU p σ u v):SitS p σe σ (setS ρ i (.val u)) (μ.set i v) K:=
  S.put hi S.s.st S.e (fun ω ω h=>h) nofun List.length_set (fun ω h=>set_other h) ((set_same (by rw [←S.s.ev.len];exact hi)).symm▸r)
theorem RSl.calm (h:isG s=false)(c:Cold σ σ')(r:RSl p σe σ s v):RSl p σe σ' s v:=by
  cases s<;>first |(cases h;done) |exact trivial |exact RU.cold c r
theorem SitS.fresh (S:SitS p σe σ ρ μ K){a:Nat}(h:σ a=none):σe a=none:=by
  cases z:σe a with
  |none=>rfl
  |some o=>
    by_cases m:a∈p.W
    · obtain ⟨_,k,_⟩:=S.s.st.hot m;rw [h] at k;cases k
    · rw [S.e _ _ m z] at h;cases h
theorem SitS.new (S:SitS p σe σ ρ μ K)(hi:i<ρ.length)(ho:one (setS ρ i .unb)=true){a:Nat}(e:Ext [] σ σ')(hs:RSl p σe σ' s (.ref a)):SitS p σe σ' (setS ρ i s) (μ.set i (.ref a)) K:=
  S.put hi (S.s.st.up e) (S.e.trans e.wide) (fun j h=>RSl.calm (ixS_other h▸one_no ho j) e.cold) (fun ω j h=>ixS_other h▸one_no ho j) List.length_set (fun ω h=>set_other h) ((set_same (by rw [←S.s.ev.len];exact hi)).symm▸hs)
theorem SitS.upd (S:SitS p σe σ ρ μ K){a:Nat}{o:O}(hG:isG (ixS ρ i)=true)(hv:μ.getD i .unb=.ref a)(n:σe a=none)(g:σ a=some o)(hot:o.hot=true)(e:Ext [a] σ σ')(hs:RSl p σe σ' s (.ref a)):SitS p σe σ' (setS ρ i s) μ K:=by
  have c:=e.cold1 g hot
  have hn:∀b∈p.W,b∉[a]:=fun b m z=>S.s.se b m (List.mem_singleton.mp z▸n)
  have ot:∀j,j≠i→isG (ixS ρ j)=false:=fun j h=>by
    cases z:isG (ixS ρ j) with
    |false=>rfl
    |true=>exact absurd (S.g j i z hG) h
  refine S.put (ixS_lt fun z=>by rw [z] at hG;cases hG) (S.s.st.up2 c fun b m=>?_) (fun b o' m h=>?_) (fun j h=>RSl.calm (ot j h) c) (fun ω=>ot) rfl (fun ω ω=>rfl) (hv.symm▸hs)
  · obtain ⟨o',h,_⟩:=S.s.st.hot m
    rw [h];exact e _ _ (hn b m) h
  · exact e _ _ (fun z=>by rw [List.mem_singleton.mp z,n] at h;cases h) (S.e _ _ m h)
end
end Internal
end
section
namespace Internal
noncomputable def flR (p:Pm)(σ:Sto):Zl→Fl→Prop
 |.next,f=>f=.next
 |.cont,f=>f=.cont
 |.brk,f=>f=.brk
 |.ret u,f=>∃v,f=.ret v∧RU p σ u v
noncomputable def PS' (p:Pm)(σe σ:Sto)(Q:ZS)(Q':PS):Prop:=∀f ρ K f' μ σ',Cold σ σ'→SitS p σe σ' ρ μ K→flR p σ' f f'→Q f ρ K→Q' f' μ σ'
noncomputable def PE' (p:Pm)(σe σ:Sto)(E:ZEs)(E':PEs):Prop:=∀c ρ K μ σ',Cold σ σ'→SitS p σe σ' ρ μ K→E c ρ K→E' c μ σ'
noncomputable def PG (p:Pm)(σe σ:Sto)(Q:List Sl→KS→Prop)(Q':List V→Sto→Prop):Prop:=∀ρ K μ σ',Cold σ σ'→SitS p σe σ' ρ μ K→Q ρ K→Q' μ σ'
section
variable {p:Pm}{σ σ' σe:Sto}{K K':KS}{u:U}{v w:V}{ρ:List Sl}{μ:List V}{E:ZEs}{E':PEs}{i:Nat}
theorem Cold.refl:Cold σ σ:=fun ω ω h ω=>h
theorem Cold.trans {σ''}(a:Cold σ σ')(b:Cold σ' σ''):Cold σ σ'':=fun x o h k=>b x o (a x o h k) k
theorem PS'.up {Q Q'}(q:PS' p σe σ Q Q')(c:Cold σ σ'):PS' p σe σ' Q Q':=fun f ρ K g μ s k=>q f ρ K g μ s (c.trans k)
theorem PE'.up {Q Q'}(q:PE' p σe σ Q Q')(c:Cold σ σ'):PE' p σe σ' Q Q':=fun f ρ K g μ k=>q f ρ K g μ (c.trans k)
theorem PG.up {Q Q'}(q:PG p σe σ Q Q')(c:Cold σ σ'):PG p σe σ' Q Q':=fun f ρ K g k=>q f ρ K g (c.trans k)
theorem PE'.x (e:PE' p σe σ E E')(S:SitS p σe σ ρ μ K):PEz p σ (fun c K=>E c ρ K) fun c σ=>E' c μ σ:=fun c K σ' x s h=>e c ρ K μ σ' (S.s.st.cold x) (S.up x s) h
theorem hasK_len {x:String}{ks:List String}{vs:List V}(h:ks.length=vs.length)(k:hasK x ks=false):(setKs x ks).length=(vs++[v]).length:=by
 unfold setKs;rw [k];rw [cond_false,List.length_append,List.length_append,h];rfl
theorem mapV_ok {x:String}(ru:RU p σ u v):∀{ks:List String} {us:List U} {vs:List V},ks.length=vs.length→RUs p σ us vs→
  ∃ws,(kz ks vs).map (fun q=>if keyEq (.str x) q.1=true then (q.1,v) else q)=kz ks ws∧ks.length=ws.length∧RUs p σ (mapV x u ks us) ws
 | [],us,[],_,_=>⟨[],rfl,rfl,by cases us<;>exact RUs.nil⟩
 |y::r,w::us,_,h,⟨z,vs,e,rz,ru'⟩=>by
  subst e
  obtain ⟨ws,e,hl,rs⟩:=mapV_ok (x:=x) ru (ks:=r) (vs:=vs) (Nat.succ.inj h) ru'
  have:∃w',(if (x==y)=true then (V.str y,v) else (V.str y,z))=(V.str y,w')∧RU p σ (cond (x==y) u w) w':=by
   cases x==y with
   |true=>exact ⟨v,rfl,ru⟩
   |false=>exact ⟨z,rfl,rz⟩
  obtain ⟨w',e',rw'⟩:=this
  exact ⟨w'::ws,(congrArg (·::_) e').trans (congrArg (_::·) e),congrArg (· + 1) hl,RUs.cons rw' rs⟩
 | [],_,_::_,h,_ |_::_,_,[],h,_=>nomatch h
 |_::_,[],_::_,_,r=>nomatch r
theorem dset_ok {x:String}{ks:List String}{us:List U}{vs:List V}(ru:RU p σ u v)(h:ks.length=vs.length)(r:RUs p σ us vs) :
  ∃ws,dset (.str x) v (kz ks vs)=kz (setKs x ks) ws∧(setKs x ks).length=ws.length∧RUs p σ (setV x u ks us) ws:=by
 unfold dset setKs setV
 rw [hasK_any h]
 cases hasK x ks with
 |true=>exact mapV_ok ru h r
 |false=>
  refine ⟨vs++[v],?_,?_,r.snoc ru⟩
  ·show kz ks vs++[(V.str x,v)]=kz (ks++[x]) (vs++[v])
   unfold kz
   rw [List.map_append,List.zip_append (by rw [List.length_map];exact h)];rfl
  ·show (ks++[x]).length=_
   rw [List.length_append,List.length_append,h];rfl
end
section
variable {p:Pm}{ch:CZ}{cw:Ch}(C:CW p ch cw)
noncomputable def OTg (p:Pm)(ch:CZ)(cw:Ch)(t:Tg):Prop:=∀{σe σ ρ μ K Q E Q' E' u v},zTg ch t u ρ K Q E→SitS p σe σ ρ μ K→RU p σ u v→PG p σe σ Q Q'→PE' p σe σ E E'→wpTg cw t v μ σ Q' E'
noncomputable def OTgs (p:Pm)(ch:CZ)(cw:Ch)(t:List Tg):Prop:=∀{σe σ ρ μ K Q E Q' E' u v},zTgs ch t u ρ K Q E→SitS p σe σ ρ μ K→RUs p σ u v→PG p σe σ Q Q'→PE' p σe σ E E'→wpTgs cw t v μ σ Q' E'
theorem blt_ {P:Prop}{b:Bool}(h:cond b P False):b=true∧P:=by
 cases b with
 |true=>exact ⟨rfl,h⟩
 |false=>exact h.elim
theorem lt_of {i n:Nat}(h:Nat.blt i n=true):i<n:=Nat.le_of_ble_eq_true h
theorem g_loc (i:Nat):OTg p ch cw (.loc i):=fun z S r q ω=>by
 have ⟨b,z⟩:=blt_ z
 exact ⟨S.s.ev.len▸lt_of b,q _ _ _ _ .refl (S.val (lt_of b) r) z⟩
theorem g_tup {ts:List Tg}(h:OTgs p ch cw ts):OTg p ch cw (.tup ts):=fun {σe σ ρ μ K Q E Q' E' u v} z S r q e=>
 seqU_ (P:=fun v=>wpTg cw (.tup ts) v μ σ Q' E') z r fun a vs l g r z=>by
  have ⟨b,z⟩:=blt_ z
  exact ⟨a,vs,rfl,g,r.len.trans (Nat.eq_of_beq_eq_true b),h z S r q e⟩
theorem gs_nil:OTgs p ch cw []:=fun {_ _ _ _ _ _ _ _ _ u v} z S r q e=>by
 cases u with
 |nil=>cases r;exact q _ _ _ _ .refl S z
 |cons=>exact z.elim
theorem gs_cons {t:Tg}{ts:List Tg}(ht:OTg p ch cw t)(hr:OTgs p ch cw ts):OTgs p ch cw (t::ts):=fun {_ _ _ _ _ _ _ _ _ u v} z S r q e=>by
 cases u with
 |nil=>exact z.elim
 |cons u us=>
  obtain ⟨v,vs,rfl,r,rs⟩:=r
  exact ht z S r (fun ρ K μ σ1 c S1 z=>hr z S1 (rs.cold c) (q.up c) (e.up c)) e
theorem locX_ {x:X}{k:Nat→Prop}(h:locX x k):∃i,x=.loc i∧k i:=by
 unfold locX at h
 cases z:locN x with
 |some i=>rw [z] at h;exact ⟨i,locN_ z,h⟩
 |none=>rw [z] at h;exact h.elim
theorem asG_ {s:Sl}{k:List U→Prop}(h:asG s k):∃us,s=.grow us∧k us:=by
 cases s<;>first |exact h.elim |exact ⟨_,rfl,h⟩
theorem asGD_ {s:Sl}{k:List String→List U→Prop}(h:asGD s k):∃ks us,s=.gdict ks us∧k ks us:=by
 cases s<;>first |exact h.elim |exact ⟨_,_,rfl,h⟩
theorem EV.ref {p:Pm}{σe σ:Sto}{ρ:List Sl}{μ:List V}{j:Nat}{v:V}(h:EV p σe σ ρ μ)(n:ixS ρ j≠.unb)(e:μ[j]? = some v):μ.getD j .unb=v:=by
 have:=(h.ix j).2 (ixS_lt n)
 rw [e] at this;exact (Option.some.inj this).symm
theorem g_sub (C:CW p ch cw)(o i:X):OTg p ch cw (.sub o i):=fun {σe σ ρ μ K Q E Q' E' u v} z S r q e=>by
 obtain ⟨j,rfl,z⟩:=locX_ z
 obtain ⟨ks,us,k,z⟩:=asGD_ z
 obtain ⟨va,e1,a,vs,e2,n,g,hl,rs⟩:=S.s.ev.at k nofun
 subst e2
 refine ⟨_,e1,nofun,all_X C i z S.s (fun y K1 vy σ1 x1 s1 ry z=>?_) (e.x S)⟩
 refine asSZ_ (P:=fun y=>wpSet (.ref a) y v σ1 fun σ=>Q' μ σ) z ry fun x z=>?_
 have z:=gd_of z
 have c1:=S.s.st.cold x1
 have g1:σ1 a=some (.dict true (kz ks vs)):=x1 _ _ (fun m=>S.s.se a m n) g
 obtain ⟨ws,d1,d2,d3⟩:=dset_ok (x:=x) (RU.cold c1 r) hl (rs.cold c1)
 refine ⟨_,g1,strKeys_kz,by rw [kz_len hl];exact z.1,fun σ2 x2 g2=>?_⟩
 have up:=(S.up x1 s1).upd (i:=j) (s:=.gdict (setKs x ks) (setV x u ks us)) (by rw [k];rfl) (S.s.ev.ref (by rw [k];nofun) e1) n g1 rfl x2
 have c2:Cold σ1 σ2:=x2.cold1 g1 rfl
 exact q _ _ _ _ (c1.trans c2) (up ⟨a,ws,rfl,n,d1▸g2,d2,d3.cold c2⟩) z.2
theorem tg_ok (C:CW p ch cw):∀t,OTg p ch cw t:=Tg.rec (motive_1:=OTg p ch cw) (motive_2:=OTgs p ch cw) g_loc (fun ω h=>g_tup h) (g_sub C) (fun ω ω=>fun z=>z.elim) gs_nil fun ω ω a b=>gs_cons a b
end
end Internal
end
section
namespace Internal
section
variable (p:Pm)(ch:CZ)(cw:Ch)
noncomputable def OS (s:S):Prop:=∀{σe σ ρ μ K Q E Q' E'},zS ch s ρ K Q E→SitS p σe σ ρ μ K→PS' p σe σ Q Q'→PE' p σe σ E E'→wpS cw s μ σ Q' E'
noncomputable def OSs (s:List S):Prop:=∀{σe σ ρ μ K Q E Q' E'},zSs ch s ρ K Q E→SitS p σe σ ρ μ K→PS' p σe σ Q Q'→PE' p σe σ E E'→wpSs cw s μ σ Q' E'
end
section
variable {p:Pm}{ch:CZ}{cw:Ch}
theorem zNew_ {ρ:List Sl}{i:Nat}{s:Sl}{k:List Sl→Prop}(h:zNew ρ i s k):i<ρ.length∧one (setS ρ i .unb)=true∧k (setS ρ i s):=by
 have ⟨b,h⟩:=blt_ h
 have b:=Bool.and_eq_true_iff.mp b
 exact ⟨lt_of b.1,b.2,h⟩
theorem new_ok {σe σ ρ μ K i s}{o:O}{k:List Sl→Prop}{Q':List V→Sto→Prop}(z:zNew ρ i s k)(S:SitS p σe σ ρ μ K)(r:∀a σ',Ext [] σ σ'→σe a=none→σ' a=some o→RSl p σe σ' s (.ref a))
  (q:∀ρ μ σ',Cold σ σ'→SitS p σe σ' ρ μ K→k ρ→Q' μ σ'):alloc o σ fun v σ=>i<μ.length∧Q' (μ.set i v) σ:=fun a σ' n e g=>by
 have ⟨z1,z2,z3⟩:=zNew_ z
 exact ⟨S.s.ev.len▸z1,q _ _ _ e.cold (S.new z1 z2 e (r a σ' e (S.fresh n) g)) z3⟩
theorem locT_ {t:Tg}{k:Nat→Prop}(h:locT t k):∃i,t=.loc i∧k i:=by
 cases t<;>first |exact h.elim |exact ⟨_,rfl,h⟩
theorem tupT_ {t:Tg}{k:List Tg→Prop}(h:tupT t k):∃ts,t=.tup ts∧k ts:=by
 cases t<;>first |exact h.elim |exact ⟨_,rfl,h⟩
theorem two_ {ts:List Tg}{k:Tg→Tg→Prop}(h:two ts k):∃a b,ts=[a,b]∧k a b:=by
 rcases ts with _ |⟨a,_ |⟨b,_ |⟨c,r⟩⟩⟩<;>first |exact h.elim |exact ⟨_,_,rfl,h⟩
theorem isNewL_ {x:X}:isNewL x=true→x=.lst true []:=by
 cases x with
 |lst m xs=>exact fun e=>by have e:=Bool.and_eq_true_iff.mp e;rw [e.1,List.isEmpty_iff.mp e.2]
 |_=>exact fun e=>absurd e Bool.false_ne_true
theorem locT_c {P:Tg→Prop}{t:Tg}{k:Nat→Prop}(h:locT t k)(f:∀i,k i→P (.loc i)):P t:=(locT_ h).elim fun i e=>e.1▸f i e.2
theorem tupT_c {P:Tg→Prop}{t:Tg}{k:List Tg→Prop}(h:tupT t k)(f:∀ts,k ts→P (.tup ts)):P t:=(tupT_ h).elim fun i e=>e.1▸f i e.2
theorem two_c {P:List Tg→Prop}{ts:List Tg}{k:Tg→Tg→Prop}(h:two ts k)(f:∀a b,k a b→P [a,b]):P ts:=(two_ h).elim fun a e=>e.elim fun b e=>e.1▸f a b e.2
set_option tactic.hygienic true in
theorem s_asg (C:CW p ch cw)(t:Tg)(x:X):OS p ch cw (.asg t x):=fun {σe σ ρ μ K Q E Q' E'} z S q e=>by
 have gen:∀{x},zX ch x ρ K (fun u K=>zTg ch t u ρ K (fun ρ K=>Q .next ρ K) E) (fun c K=>E c ρ K)→wpS cw (.asg t x) μ σ Q' E':=fun {x} z=>
  all_X C x z S.s (fun ω ω ω ω x1 s1 r z=>tg_ok C t z (S.up x1 s1) r (fun ω ω ω ω c S' z=>q .next _ _ _ _ _ ((S.s.st.cold x1).trans c) S' rfl z) (e.up (S.s.st.cold x1))) (e.x S)
 cases x<;>first |exact gen z |skip
 case tup xs=>
  rcases xs with _ |⟨x,_ |⟨y,_ |⟨w,r⟩⟩⟩<;>first |exact gen z |skip
  have z:zAsg ch t (.tup [x,y]) ρ K Q E:=z
  cases h:isNewL y with
  |false=>exact gen (by unfold zAsg newX newT at z;simp only [h] at z;exact z)
  |true=>
   rw [isNewL_ h] at z⊢
   refine tupT_c (P:=fun t=>wpS cw (.asg t (.tup [x,.lst true []])) μ σ Q' E') z fun ts y=>two_c (P:=fun ts=>wpS cw (.asg (.tup ts) (.tup [x,.lst true []])) μ σ Q' E') y fun a b y=>
    locT_c (P:=fun a=>wpS cw (.asg (.tup [a,b]) (.tup [x,.lst true []])) μ σ Q' E') y fun j y=>locT_c (P:=fun b=>wpS cw (.asg (.tup [.loc j,b]) (.tup [x,.lst true []])) μ σ Q' E') y fun i y=>?_
   refine all_X C x y S.s (fun u K1 v σ1 x1 s1 r y=>?_) (e.x S)
   have y:=blt_ y
   have c1:=S.s.st.cold x1
   have S1:=S.up x1 s1
   intro a σ2 n x2 g2 d σ3 _ x3 g3
   refine ⟨d,[v,.ref a],rfl,.inl g3,rfl,S.s.ev.len▸lt_of y.1,?_⟩
   have S2:SitS p σe σ1 (setS ρ j (.val u)) (μ.set j v) K1:=S1.val (lt_of y.1) r
   have z:=zNew_ y.2
   have x4:=x2.trans x3
   exact ⟨S2.s.ev.len▸z.1,q .next _ _ _ _ _ (c1.trans x4.cold) (S2.new (s:=.grow []) z.1 z.2.1 x4 ⟨a,[],rfl,S1.fresh n,x3.get g2,RUs.nil⟩) rfl z.2.2⟩
 case lst m ys=>
  cases m with
  |false=>exact gen z
  |true=>
   cases ys with
   |cons y r=>exact gen z
   |nil=>exact locT_c (P:=fun t=>wpS cw (.asg t (.lst true [])) μ σ Q' E') z fun i y=>new_ok (s:=.grow []) y S (fun a σ' e n g=>⟨a,[],rfl,n,g,RUs.nil⟩) fun ω ω ω c S z=>q .next _ _ _ _ _ c S rfl z
 case dct m ks vs=>
  cases m with
  |false=>exact gen z
  |true=>
   refine locT_c (P:=fun t=>wpS cw (.asg t (.dct true ks vs)) μ σ Q' E') z fun i y=>all_Xs C ks y S.s (fun kk K1 v σ1 x1 s1 rk y=>all_Xs C vs y (S.up x1 s1).s (fun us K2 ws σ2 x2 s2 rv y=>(ksOf_ y rk).elim fun ks h=>?_) ((e.up (S.s.st.cold x1)).x (S.up x1 s1))) (e.x S)
   have y:=gd_of h.2
   have hl:ks.length=ws.length:=by rw [rv.len];exact y.1.2
   have c2:=(S.s.st.cold x1).trans (s1.cold x2)
   rw [h.1]
   exact ⟨str_all _,fresh_kz [] hl y.1.1 fun ω ω=>rfl,new_ok (s:=.gdict ks us) y.2 ((S.up x1 s1).up x2 s2) (fun a σ' e n g=>⟨a,ws,rfl,n,g,hl,rv.cold e.cold⟩) fun ω ω ω c S z=>q .next _ _ _ _ _ (c2.trans c) S rfl z⟩
 case dcp xx=>
  refine locT_c (P:=fun t=>wpS cw (.asg t (.dcp xx)) μ σ Q' E') z fun i y=>all_X C xx y S.s (fun u K1 v σ1 x1 s1 r y=>?_) (e.x S)
  cases u with
  |dict ks us=>
   refine r.elim fun a r=>r.elim fun vs r=>?_
   have y:=gd_of y
   have hz:=kz_len r.2.2.1
   rw [r.1]
   exact ⟨_,_,r.2.1,strKeys_kz,fun h=>y.1.2 (List.eq_nil_of_length_eq_zero (by rw [←hz,h];rfl)),by rw [hz];exact y.1.1,
    new_ok (s:=.gdict ks us) y.2 (S.up x1 s1) (fun a σ' e n g=>⟨a,vs,rfl,n,g,r.2.2.1,r.2.2.2.cold e.cold⟩) fun ω ω ω c S' z=>q .next _ _ _ _ _ ((S.s.st.cold x1).trans c) S' rfl z⟩
  |_=>exact y.elim
theorem seq_up {σe σ:Sto}{k:List Sl→KS→Prop}{Q:ZS}{k':List V→Sto→Prop}{Q':PS}(h:PG p σe σ k k')(q:PS' p σe σ Q Q') :
  PS' p σe σ (seqZ k Q) fun f μ σ=>match f with |.next=>k' μ σ |f=>Q' f μ σ:=fun f ρ K f' μ σ' c S r z=>by
 cases f with
 |next=>cases r;exact h _ _ _ _ c S z
 |cont=>cases r;exact q .cont _ _ _ _ _ c S rfl z
 |brk=>cases r;exact q .brk _ _ _ _ _ c S rfl z
 |ret u=>obtain ⟨v,rfl,r⟩:=r;exact q (.ret u) _ _ _ _ _ c S ⟨v,rfl,r⟩ z
theorem loop_up {σe σ:Sto}{k:List Sl→KS→Prop}{Q:ZS}{k':List V→Sto→Prop}{Q':PS}(h:PG p σe σ k k')(q:PS' p σe σ Q Q') :
  PS' p σe σ (loopK k Q) fun f μ σ=>match f with |.next |.cont=>k' μ σ |.brk=>Q' .next μ σ |.ret v=>Q' (.ret v) μ σ:=fun f ρ K f' μ σ' c S r z=>by
 cases f with
 |next=>cases r;exact h _ _ _ _ c S z
 |cont=>cases r;exact h _ _ _ _ c S z
 |brk=>cases r;exact q .next _ _ _ _ _ c S rfl z
 |ret u=>obtain ⟨v,rfl,r⟩:=r;exact q (.ret u) _ _ _ _ _ c S ⟨v,rfl,r⟩ z
theorem ss_nil:OSs p ch cw []:=fun z S q ω=>q .next _ _ _ _ _ .refl S rfl z
theorem ss_cons {s:S}{r:List S}(hs:OS p ch cw s)(hr:OSs p ch cw r):OSs p ch cw (s::r):=fun z S q e=>
 hs z S (seq_up (fun ω ω ω ω c S z=>hr z S (q.up c) (e.up c)) q) e
theorem s_app (C:CW p ch cw)(o x:X):OS p ch cw (.app o x):=fun {σe σ ρ μ K Q E Q' E'} z S q e=>by
 obtain ⟨j,rfl,z⟩:=locX_ z
 obtain ⟨us,k,z⟩:=asG_ z
 obtain ⟨va,e1,a,vs,e2,n,g,rs⟩:=S.s.ev.at k nofun
 subst e2
 refine ⟨_,e1,nofun,a,vs,rfl,g,all_X C x z S.s (fun y K1 vy σ1 x1 s1 ry z=>?_) (e.x S)⟩
 have c1:=S.s.st.cold x1
 have g1:σ1 a=some (.list true vs):=x1 _ _ (fun m=>S.s.se a m n) g
 refine ⟨_,g1,by rw [rs.len];exact z.1,fun σ2 x2 g2=>?_⟩
 have c2:=x2.cold1 g1 rfl
 exact q .next _ _ _ _ _ (c1.trans c2) ((S.up x1 s1).upd (i:=j) (s:=.grow (us++[y])) (by rw [k];rfl) (S.s.ev.ref (by rw [k];nofun) e1) n g1 rfl x2 ⟨a,_,rfl,n,g2,((rs.cold c1).snoc ry).cold c2⟩) rfl z.2
theorem s_exp (C:CW p ch cw)(x:X):OS p ch cw (.exp x):=fun z S q e=>
 all_X C x z S.s (fun u ω ω ω x1 s1 r z=>by
  cases u<;>first |exact z.elim |(cases r;exact ⟨rfl,q .next _ _ _ _ _ (S.s.st.cold x1) (S.up x1 s1) rfl z⟩)) (e.x S)
theorem s_ite (C:CW p ch cw)(c:T){a b:List S}(ha:OSs p ch cw a)(hb:OSs p ch cw b):OS p ch cw (.ite c a b):=fun z S q e=>
 all_T C c z S.s (fun t ω ω x1 s1 z=>have c:=S.s.st.cold x1;cnd z (fun z=>ha z (S.up x1 s1) (q.up c) (e.up c)) fun z=>hb z (S.up x1 s1) (q.up c) (e.up c)) (e.x S)
theorem s_ret (C:CW p ch cw)(x:X):OS p ch cw (.ret x):=fun z S q e=>
 all_X C x z S.s (fun ω ω v ω x1 s1 r z=>q (.ret _) _ _ _ _ _ (S.s.st.cold x1) (S.up x1 s1) ⟨v,rfl,r⟩ z) (e.x S)
theorem s_try {body:List S}(c:Nat)(h:Hd)(hb:OSs p ch cw body):OS p ch cw (.tryc body c h):=fun z S q e=>
 hb z S q fun c' ρ K μ σ' k S z=>cnd z (fun z=>by
  cases h with
  |retNone=>exact q (.ret .none) _ _ _ _ _ k S ⟨_,rfl,rfl⟩ z
  |cont=>exact q .cont _ _ _ _ _ k S rfl z) fun z=>e _ _ _ _ _ k S z
theorem s_frz (i:Nat):OS p ch cw (.frz i):=fun {σe σ ρ μ K Q E Q' E'} z S q e=>by
 have z:(match ixS ρ i with
   |.grow us=>Q .next (setS ρ i (.val (.list us))) K
   |.gdict ks us=>Q .next (setS ρ i (.val (.dict ks us))) K
   |_=>False):=z
 cases k:ixS ρ i with
 |grow us=>
  rw [k] at z
  obtain ⟨va,e1,a,vs,e2,n,g,rs⟩:=S.s.ev.at k nofun
  subst e2
  exact ⟨_,e1,.inl ⟨vs,g,fun σ2 x2 g2=>q .next _ _ _ _ _ (x2.cold1 g rfl) (S.upd (i:=i) (s:=.val (.list us)) (by rw [k];rfl) (S.s.ev.ref (by rw [k];nofun) e1) n g rfl x2 ⟨a,_,rfl,g2,rs.cold (x2.cold1 g rfl)⟩) rfl z⟩⟩
 |gdict ks us=>
  rw [k] at z
  obtain ⟨va,e1,a,vs,e2,n,g,hl,rs⟩:=S.s.ev.at k nofun
  subst e2
  exact ⟨_,e1,.inr ⟨_,_,g,fun σ2 x2 g2=>q .next _ _ _ _ _ (x2.cold1 g rfl) (S.upd (i:=i) (s:=.val (.dict ks us)) (by rw [k];rfl) (S.s.ev.ref (by rw [k];nofun) e1) n g rfl x2 ⟨a,_,rfl,g2,hl,rs.cold (x2.cold1 g rfl)⟩) rfl z⟩⟩
 |_=>rw [k] at z;exact z.elim
theorem zFor_ok {σe σ:Sto}{step:U→List Sl→KS→ZS→Prop}{step':V→List V→Sto→PS→Prop}{chk:Sto→Prop}{Q:ZS}{Q':PS}(hchk:∀σ',Cold σ σ'→chk σ')(q:PS' p σe σ Q Q')
  (hs:∀x v ρ μ K σ1 k k',Cold σ σ1→SitS p σe σ1 ρ μ K→RU p σ1 x v→step x ρ K k→PS' p σe σ1 k k'→step' v μ σ1 k') :
  ∀{us vs ρ μ K σ1},Cold σ σ1→SitS p σe σ1 ρ μ K→RUs p σ1 us vs→zFor step us ρ K Q→wpFor chk step' vs μ σ1 Q'
 | [],_,_,_,_,σ1,c,S,r,z=>by cases r;exact ⟨hchk _ c,q .next _ _ _ _ _ c S rfl z⟩
 |x::us,_,_,_,_,σ1,c,S,⟨v,vs,e0,rx,r⟩,z=>by
  subst e0
  exact ⟨hchk _ c,hs _ _ _ _ _ _ _ _ c S rx z (loop_up (fun ω ω ω σ2 c2 S2 z=>zFor_ok hchk q hs (c.trans c2) S2 (r.cold c2) z) (q.up c))⟩
theorem s_forV (C:CW p ch cw)(t:Tg)(it:X){body:List S}(hb:OSs p ch cw body):OS p ch cw (.forV t it body):=fun z S q e=>
 all_X C it z S.s (fun ω ω ω ω x1 s1 r z=>zIter_ok z r fun us vs chk r hc z=>
  have c1:=S.s.st.cold x1
  zFor_ok hc (q.up c1) (fun x v ρ μ K σ2 k k' c2 S2 rx z q2=>tg_ok C t z S2 rx (fun ω ω ω ω c3 S3 z=>hb z S3 (q2.up c3) (e.up ((c1.trans c2).trans c3))) (e.up (c1.trans c2))) .refl (S.up x1 s1) r z) (e.x S)
theorem s_forR (C:CW p ch cw)(i:Nat)(n:X){body:List S}(hb:OSs p ch cw body):OS p ch cw (.forR i n body):=fun z S q e=>
 all_X C n z S.s (fun ω ω ω ω x1 s1 r z=>zRange_ok z r fun us vs chk r hc z=>
  have c1:=S.s.st.cold x1
  zFor_ok hc (q.up c1) (fun x v ρ μ K σ2 k k' c2 S2 rx z q2=>by
   have ⟨b,z⟩:=blt_ z
   exact ⟨S2.s.ev.len▸lt_of b,hb z (S2.val (lt_of b) rx) q2 (e.up (c1.trans c2))⟩) .refl (S.up x1 s1) r z) (e.x S)
theorem RUs.get {σ:Sto}:∀{l:List U} {vs:List V} {n:Nat} {u:U},RUs p σ l vs→l[n]? = some u→∃v,vs[n]? = some v∧RU p σ u v
 |_::_,_,0,_,⟨v,vs,e,h,r⟩,g=>by cases e;cases g;exact ⟨v,rfl,h⟩
 |_::_,_,n+1,_,⟨v,vs,e,h,r⟩,g=>by cases e;exact r.get (n:=n) g
theorem zForE_ok {σe σ:Sto}{step:Nat→U→List Sl→KS→ZS→Prop}{step':V→List V→Sto→PS→Prop}{chk:Sto→Prop}{Q:ZS}{Q':PS}{vs:List V}(hchk:∀σ',Cold σ σ'→chk σ')(q:PS' p σe σ Q Q')
  (hs:∀n x v ρ μ K σ1 k k',vs[n]? = some v→Cold σ σ1→SitS p σe σ1 ρ μ K→RU p σ1 x v→step n x ρ K k→PS' p σe σ1 k k'→step' (.int n) μ σ1 k') :
  ∀{us ws:List _} {m i ρ μ K σ1},vs.drop i=ws→m=us.length→Cold σ σ1→SitS p σe σ1 ρ μ K→RUs p σ1 us ws→zForE step i us ρ K Q→wpFor chk step' ((List.range' i m).map fun (i:Nat)=>V.int (i:Int)) μ σ1 Q'
 | [],_,_,_,_,_,_,σ1,_,hm,c,S,r,z=>by subst hm;exact ⟨hchk _ c,q .next _ _ _ _ _ c S rfl z⟩
 |x::us,_,m,i,_,_,_,σ1,hd,hm,c,S,⟨v,ws,e0,rx,r⟩,z=>by
  subst hm;subst e0
  have hv:vs[i]? = some v:=by rw [←List.head?_drop,hd];rfl
  have hd':vs.drop (i+1)=ws:=by rw [←List.tail_drop,hd];rfl
  exact ⟨hchk _ c,hs _ _ _ _ _ _ _ _ _ hv c S rx z (loop_up (fun ω ω ω σ2 c2 S2 z=>zForE_ok hchk q hs hd' rfl (c.trans c2) S2 (r.cold c2) z) (q.up c))⟩
theorem s_forE (C:CW p ch cw)(i j:Nat)(x:X){body:List S}(hb:OSs p ch cw body):OS p ch cw (.forE i j x body):=fun z S q e=>
 all_X C x z S.s (fun u ω ω σ1 x1 s1 r z=>by
  cases u<;>first |exact z.elim |skip
  obtain ⟨a,vs,rfl,g,r⟩:=r
  have z:=gd_of z
  have c1:=S.s.st.cold x1
  refine ⟨a,vs,rfl,g,by rw [r.len];exact z.1,?_⟩
  rw [List.range_eq_range']
  refine zForE_ok (vs:=vs) (fun ω c=>c _ _ g rfl) (q.up c1) (fun n y v ρ μ K σ2 k k' hv c2 S2 rx z q2=>?_) rfl r.len .refl (S.up x1 s1) r z.2
  have ⟨b,z⟩:=blt_ z
  have b:=Bool.and_eq_true_iff.mp b
  exact ⟨_,v,rfl,by rw [Int.toNat_natCast];exact hv,S2.s.ev.len▸lt_of b.1,S2.s.ev.len▸lt_of b.2,hb z ((S2.val (u:=.int _) (lt_of b.1) rfl).val (by rw [setS_len];exact lt_of b.2) rx) q2 (e.up (c1.trans c2))⟩) (e.x S)
theorem zWhl_ok {σe σ:Sto}{test:List Sl→KS→(Bool→KS→Prop)→Prop}{test':List V→Sto→(Bool→Sto→Prop)→Prop}{body:List Sl→KS→ZS→Prop}{body':List V→Sto→PS→Prop}{Q:ZS}{Q':PS}(q:PS' p σe σ Q Q')
  (ht:∀ρ μ K σ1 k k',Cold σ σ1→SitS p σe σ1 ρ μ K→test ρ K k→(∀b K σ',Cold σ1 σ'→SitS p σe σ' ρ μ K→k b K→k' b σ')→test' μ σ1 k')
  (hb:∀ρ μ K σ1 k k',Cold σ σ1→SitS p σe σ1 ρ μ K→body ρ K k→PS' p σe σ1 k k'→body' μ σ1 k') :
  ∀{n ρ μ K σ1},Cold σ σ1→SitS p σe σ1 ρ μ K→zWhl test body n ρ K Q→wpWhl test' body' n μ σ1 Q'
 |0,_,_,_,_,_,_,z=>z.elim
 |n+1,_,_,_,σ1,c,S,z=>ht _ _ _ _ _ _ c S z fun b K σ2 c2 S2 z=>by
  cases b with
  |false=>exact q .next _ _ _ _ _ (c.trans c2) S2 rfl z
  |true=>exact hb _ _ _ _ _ _ (c.trans c2) S2 z (loop_up (fun ω ω ω ω c3 S3 z=>zWhl_ok q ht hb ((c.trans c2).trans c3) S3 z) (q.up (c.trans c2)))
theorem s_whl (C:CW p ch cw)(t:T){body:List S}(hb:OSs p ch cw body):OS p ch cw (.whl t body):=fun z S q e=>by
 obtain ⟨n,z⟩:=z
 exact ⟨n,zWhl_ok q (fun ρ μ K σ1 k k' c S z h=>all_T C t z S.s (fun b K σ' x1 s1 z=>h b K σ' (S.s.st.cold x1) (S.up x1 s1) z) ((e.up c).x S)) (fun ρ μ K σ1 k k' c S z q2=>hb z S q2 (e.up c)) .refl S z⟩
end
end Internal
end
section
namespace Internal
section
variable {p:Pm}{ch:CZ}{cw:Ch}
theorem all_Ss (C:CW p ch cw):∀ss,OSs p ch cw ss
 | []=>ss_nil
 |s::r=>ss_cons (S.rec (motive_1:=OS p ch cw) (motive_2:=OSs p ch cw) (s_asg C) (s_app C) (s_exp C) (fun c ω ω a b=>s_ite C c a b) (fun t it ω b=>s_forV C t it b) (fun i n ω b=>s_forR C i n b) (fun i j x ω b=>s_forE C i j x b) (fun c ω b=>s_whl C c b) (s_ret C)
   (fun ω ω=>fun z S ω e=>e _ _ _ _ _ .refl S z) (fun ω c h b=>s_try c h b) (fun z S q ω=>q .cont _ _ _ _ _ .refl S rfl z) (fun z S q ω=>q .next _ _ _ _ _ .refl S rfl z) s_frz ss_nil (fun ω ω a b=>ss_cons a b) s) (all_Ss C r)
theorem unbs_ev {σe σ:Sto}:∀n,EV p σe σ (unbs n) (List.replicate n V.unb)∧∀i,isG (ixS (unbs n) i)=false
 |0=>⟨.nil,fun ω=>rfl⟩
 |n+1=>have ⟨h,g⟩:=unbs_ev n;⟨.cons (s:=.unb) trivial h,fun |0=>rfl |i+1=>g i⟩
theorem pad_ev {σe σ:Sto}{n:Nat}:∀{us:List U} {vs:List V},RUs p σ us vs→EV p σe σ (padS us n) (vs++List.replicate n V.unb)∧∀i,isG (ixS (padS us n) i)=false
 | [],_,r=>by cases r;exact unbs_ev n
 |u::us,_,⟨v,vs,e,h,r⟩=>by
  subst e
  have ⟨k,g⟩:=pad_ev (σe:=σe) (n:=n) r
  exact ⟨.cons (s:=.val u) h k,fun |0=>rfl |i+1=>g i⟩
theorem body_ok (C:CW p ch cw){d:Fd}{us:List U}{vs:List V}{K:KS}{Q:ZQ}{E:ZE}{Q':PX}{E':PE}{σ:Sto}(z:zBody ch d us K Q E)(r:RUs p σ us vs)(s:SSt p σ K)(q:PQ p σ Q Q')(e:PEz p σ E E'):wpBody cw d vs σ Q' E':=by
 have ⟨b,z⟩:=blt_ z
 have ⟨h,g⟩:=pad_ev (σe:=σ) (n:=d.nm.length-d.np) r
 refine ⟨r.len.trans (Nat.eq_of_beq_eq_true b),all_Ss C _ z ⟨⟨h,s,fun a m=>?_⟩,(fun i j y=>by rw [g i] at y;cases y),.refl⟩ (fun f ρ K f' μ σ' ω S r z=>?_) fun c ρ K μ σ' ω S z=>e _ _ _ S.e S.s.st z⟩
 ·obtain ⟨o,h,_⟩:=s.hot m
  rw [h];nofun
 ·cases f with
  |next=>cases r;exact q .none _ _ _ S.e S.s.st rfl z
  |ret u=>obtain ⟨v,rfl,r⟩:=r;exact q _ _ _ _ S.e S.s.st r z
  |_=>exact z.elim
end
section
variable {σ:Sto}{Q:PX}{E:PE}
theorem sub_lst {y v:V}{a k:Nat}{m:Bool}{vs:List V}(g:σ a=some (.list m vs))(e:y=.int (k:Int))(hk:k≤1000000)(hv:vs[k]? = some v)(q:Q v σ):wpSub (.ref a) y σ Q:=
 e▸.inl ⟨_,_,.inr ⟨_,g⟩,⟨Int.natCast_nonneg k,Int.ofNat_le.mpr hk⟩,hv,q⟩
theorem at_w {ch:Ch}{w:Nat}{μ:List V}{v:V}{k:Nat}{m:Bool}{vs:List V}(g:σ w=some (.list m vs))(hk:k≤1000000)(hv:vs[k]? = some v)(q:Q v σ):wpX ch (.sub (.loc 0) (.cst (.int (k:Int)))) (.ref w::μ) σ Q E:=
 ⟨_,rfl,nofun,sub_lst g rfl hk hv q⟩
theorem put_w {ch:Ch}{w:Nat}{μ:List V}{v:V}{k:Nat}{vs:List V}{R:List V→Sto→Prop}{E:PEs}(g:σ w=some (.list true vs))(h:k<vs.length)(hk:k≤1000000)(q:∀σ',Ext [w] σ σ'→σ' w=some (.list true (vs.set k v))→R (.ref w::μ) σ'):wpTg ch (.sub (.loc 0) (.cst (.int (k:Int)))) v (.ref w::μ) σ R E:=
 ⟨_,rfl,nofun,.inl ⟨_,g,Int.natCast_nonneg k,h,Int.ofNat_le.mpr hk,q⟩⟩
theorem loc_w {ch:Ch}{i:Nat}{μ:List V}{v:Int}(h:μ[i]? = some (.int v))(q:Q (.int v) σ):wpX ch (.loc i) μ σ Q E:=⟨_,h,nofun,q⟩
theorem draw_w {n w:Nat}{z:Int}(hw:Well σ w)(hz:0<z)(hQ:∀r:Nat,(r:Int)<z→∀σ',Ext [w] σ σ'→Well σ' w→Q (.int r) σ'):wpF code (n+1) 30 [.ref w,.int z] σ Q E:=by
 cases hw with
 |mk l i s ns gw gl h1 h2 h3 h4 h5=>
 have fin:∀{i' s' r:Int} {σ1},Ext [w] σ σ1→σ1 w=some (.list true [.ref l,.int i',.int (s' % 997)])→0≤i'→Q (.int (r % z)) σ1:=fun {i' s' r σ1} e g k=>by
  have t:=Int.toNat_of_nonneg (Int.emod_nonneg r (Int.ne_of_gt hz))
  exact t▸hQ (r % z).toNat (by rw [t];exact Int.emod_lt_of_pos _ hz) σ1 e ⟨l,i',_,ns,g,e _ _ (fun m=>by rw [List.mem_singleton.mp m,gw] at gl;cases gl) gl,k,Int.emod_nonneg _ (by decide),Int.emod_lt_of_pos _ (by decide),h4,h5⟩
 clear hQ h2 h3 h4
 generalize Q=Q at fin⊢
 refine ⟨c__law_draw,rfl,rfl,?_⟩
 refine at_w (k:=1) gw (by decide) rfl (at_w (k:=0) gw (by decide) rfl (.inl ⟨_,.inr ⟨_,gl⟩,by rw [List.length_map];exact Nat.le_trans h5 (by decide),?_⟩))
 rw [List.length_map]
 refine (Int.eq_ofNat_of_zero_le h1).elim fun k e=>?_
 subst e
 refine (?_:cond (decide ((k:Int)<(ns.length:Int))) _ _)
 cases h:decide ((k:Int)<(ns.length:Int)) with
 |true=>
  have hk:k<ns.length:=Int.ofNat_lt.mp (of_decide_eq_true h)
  refine at_w (k:=0) gw (by decide) rfl (at_w (k:=1) gw (by decide) rfl (sub_lst gl rfl (Nat.le_trans (Nat.le_of_lt hk) (Nat.le_trans h5 (by decide))) (by rw [List.getElem?_map,List.getElem?_eq_getElem hk];rfl) ⟨(by decide:2<3),?_⟩))
  refine at_w (k:=1) gw (by decide) rfl (?_:wpTg _ _ _ _ _ _ _)
  refine put_w (k:=1) gw (by decide:1<3) (by decide) fun σ1 e1 g1=>(?_:wpS _ _ _ _ _ _)
  refine at_w (k:=2) g1 (by decide) rfl ⟨by decide,(?_:wpX _ _ _ _ _ _)⟩
  refine loc_w rfl ⟨by decide,(?_:wpTg _ _ _ _ _ _ _)⟩
  refine put_w (k:=2) g1 (by decide:2<3) (by decide) fun σ2 e2 g2=>(?_:wpS _ _ _ _ _ _)
  exact ⟨_,rfl,nofun,_,rfl,nofun,hz,fin (e1.trans e2) g2 (Int.le_add_one h1)⟩
 |false=>
  refine at_w (k:=2) gw (by decide) rfl ⟨by decide,by decide,(?_:wpTg _ _ _ _ _ _ _)⟩
  refine put_w (k:=2) gw (by decide:2<3) (by decide) fun σ1 e1 g1=>(?_:wpS _ _ _ _ _ _)
  refine at_w (k:=2) g1 (by decide) rfl ?_
  exact ⟨_,rfl,nofun,hz,fin e1 g1 h1⟩
end
end Internal
end
section
namespace Internal
section
variable {p:Pm}{σ:Sto}{K:KS}{Q:PX}{E:PE}
theorem kv_int (K:KS):intKeys (K.map kv1)=true:=by
 induction K with
 |nil=>rfl
 |cons q r ih=>exact ih
inductive KF (k:Nat)(K:KS):Prop
 |old (m:Nat):(k,m)∈K→dget (.int k) (K.map kv1)=some (.int m)→((K.map kv1).any fun q=>keyEq (.int k) q.1)=true→KF k K
 |new:(∀q∈K,q.1≠k)→((K.map kv1).any fun q=>keyEq (.int k) q.1)=false→(∀v,dget (.int k) (K.map kv1++[(.int k,v)])=some v)→KF k K
theorem kv_find (k:Nat):∀K:KS,KF k K
 | []=>.new nofun rfl fun v=>if_pos (beq_self_eq_true _)
 |(j,m)::r=>by
  by_cases h:(k:Int)=j
  ·have h:=Int.ofNat.inj h
   subst h
   have e:((k:Int)==k)=true:=beq_self_eq_true _
   exact .old m (.head _) (if_pos e) (by show (((k:Int)==k)||_)=true;rw [e];rfl)
  ·have e:((k:Int)==j)=false:=beq_eq_false_iff_ne.mpr h
   cases kv_find k r with
   |old m' h1 h2 h3=>exact .old m' (.tail _ h1) ((if_neg (by rw [show keyEq (.int k) (.int j)=((k:Int)==j) from rfl,e];nofun)).trans h2) (by show (((k:Int)==j)||_)=true;rw [e];exact h3)
   |new h1 h2 h3=>
    refine .new (fun q m'=>?_) (by show (((k:Int)==j)||_)=false;rw [e];exact h2) fun v=>(if_neg (by rw [show keyEq (.int k) (.int j)=((k:Int)==j) from rfl,e];nofun)).trans (h3 v)
    rcases List.mem_cons.mp m' with m' |m'
    ·subst m';exact fun z=>h (congrArg Int.ofNat z.symm)
    ·exact h1 q m'
theorem known_w {ch:Ch}{g dx kd:Nat}{μ:List V}(g1:σ g=some (.inst 357 dx))(g2:σ dx=some (.idict [("known",.ref kd)]))(q:Q (.ref kd) σ):wpX ch (.att (.loc 0) "known") (.ref g::μ) σ Q E:=⟨_,rfl,nofun,_,_,_,_,g1,g2,rfl,rfl,q⟩
theorem sub_w {ch:Ch}{a i:X}{μ:List V}(h:wpX ch a μ σ (fun x σ=>wpX ch i μ σ (fun y σ=>wpSub x y σ Q) E) E):wpX ch (.sub a i) μ σ Q E:=h
theorem number_w {n:Nat}{o:List UInt8}(s:SSt p σ K)(ho:o.length≤100000)(hk:K.length≤900)(hQ:∀m K' σ',OfR (valB (1::o)) m K K'→m≤1000→Ext p.W σ σ'→SSt p σ' K'→Q (.int (m:Int)) σ'):wpF code (n+1) 70 [.ref p.ad,.bytes o] σ Q E:=by
 cases s.num with
 |mk dx g1 g2 g3=>
 have l1:o.length≤16777216:=Nat.le_trans ho (by decide)
 have l2:(1::o).length≤1000000:=Nat.le_trans (Nat.succ_le_succ ho) (by decide)
 refine ⟨c_Numbered_number,rfl,rfl,_,rfl,nofun,l1,Nat.add_comm 1 _▸Nat.le_trans l2 (by decide),l2,(by decide:2<3),?_⟩
 clear l1 l2
 refine ⟨_,rfl,nofun,known_w g1 g2 (.dict _ _ _ _ rfl rfl g3 (kv_int K) ?_)⟩
 cases kv_find (valB (1::o)) K with
 |old m h1 h2 h3=>
  rw [show (((K.map kv1).any fun q=>keyEq (V.int (valB ([1]++o):Nat)) q.1))=true from h3]
  refine (?_:wpX _ _ _ _ _ _)
  exact sub_w (known_w g1 g2 ⟨_,rfl,nofun,.inr ⟨_,_,_,g3,kv_int K,h2,hQ m K σ (.old h1) (s.bd _ h1) .refl s⟩⟩)
 |new h1 h2 h3=>
  rw [show (((K.map kv1).any fun q=>keyEq (V.int (valB ([1]++o):Nat)) q.1))=false from h2]
  have hl:(K.map kv1).length≤1000:=by rw [List.length_map];exact Nat.le_trans hk (by decide)
  refine (?_:wpX _ _ _ _ _ _)
  refine known_w (ch:=ch0) (E:=fun ω ω=>True) g1 g2 (.inr ⟨_,_,g3,Nat.le_trans hl (by decide),kv_int K,(?_:wpX _ _ _ _ _ _)⟩)
  refine known_w (ch:=ch0) (E:=fun ω ω=>True) g1 g2 ⟨_,rfl,nofun,.inr ⟨_,g3,kv_int K,hl,fun σ1 e1 g4=>(?_:wpX _ _ _ _ _ _)⟩⟩
  have cd:=e1.cold1 g3 rfl
  have f1:=cd _ _ g1 rfl
  have f2:=cd _ _ g2 rfl
  have en:dset (.int (valB (1::o):Nat)) (.int ((K.map kv1).length+(1:Int))) (K.map kv1)=(K++[(valB (1::o),K.length+1)]).map kv1:=by
   unfold dset
   rw [h2,List.length_map,List.map_append];rfl
  rw [show dset (.int (valB ([1]++o):Nat)) (.int ((K.map kv1).length+(1:Int))) (K.map kv1)=_ from en] at g4
  have x1:Ext p.W σ σ1:=fun a o m h=>e1 a o (fun z=>m (List.mem_singleton.mp z▸.tail _ (.head _))) h
  have S1:SSt p σ1 (K++[(valB (1::o),K.length+1)]):=by
   refine ⟨?_,⟨dx,f1,f2,g4⟩,fun q m=>?_,cd _ _ s.t3 rfl,cd _ _ s.t4 rfl⟩
   ·cases s.well with
    |mk l i n ns a b=>exact ⟨l,i,n,ns,e1 _ _ (fun z=>by rw [List.mem_singleton.mp z,g3] at a;cases a) a,cd _ _ b rfl,‹_›,‹_›,‹_›,‹_›,‹_›⟩
   ·rcases List.mem_append.mp m with m |m
    ·exact s.bd q m
    ·cases List.mem_singleton.mp m;exact Nat.le_trans (Nat.succ_le_succ hk) (by decide)
  have d:=h3 (.int (K.length+1:Nat))
  have em:K.map kv1++[(.int (valB (1::o):Nat),.int (K.length+1:Nat))]=(K++[(valB (1::o),K.length+1)]).map kv1:=by rw [List.map_append];rfl
  rw [em] at d
  exact sub_w (known_w f1 f2 ⟨_,rfl,nofun,.inr ⟨_,_,_,g4,kv_int _,d,hQ _ _ σ1 (.new h1) (Nat.le_trans (Nat.succ_le_succ hk) (by decide)) x1 S1⟩⟩)
theorem beN_len:∀k x,(beN k x).length=k
 |0,_=>rfl
 |k+1,x=>by rw [beN,List.length_append,beN_len k];rfl
theorem of_w {n:Nat}{o:List UInt8}(s:SSt p σ K)(ho:o.length≤100000)(hk:K.length≤900)(hQ:∀m K' σ',OfR (valB (1::o)) m K K'→Ext p.W σ σ'→SSt p σ' K'→Q (.bytes (fmt m)) σ'):wpF code (n+2) 71 [.ref p.ad,.bytes o] σ Q E:=by
 cases s.num with
 |mk dx g1 g2 g3=>
 refine ⟨c_Numbered_of,rfl,rfl,_,rfl,nofun,_,_,_,70,g1,g2,rfl,rfl,_,rfl,nofun,number_w s ho hk fun m K' σ1 h hm e1 s1=>?_⟩
 have q:=hQ m K' σ1 h e1 s1
 unfold fmt at q
 obtain ⟨M,hM⟩:∃M,M=m*281479271743489 % 18446744073709551616:=⟨_,rfl⟩
 obtain ⟨L,hL⟩:∃L,L=605153021707326989568713251046585937826284568576+m:=⟨_,rfl⟩
 rw [←hM,←hL] at q
 have eM:(m:Int)*281479271743489 % (1*2^(64:Int).toNat)=(M:Int):=by rw [hM,Int.natCast_emod,Int.natCast_mul];rfl
 have lM:M<18446744073709551616:=by rw [hM];exact Nat.mod_lt _ (by decide)
 have eL:(605153021707326989568713251046585937826284568576:Int)+m=(L:Int):=by rw [hL,Int.natCast_add];rfl
 refine ⟨(by decide:2<5),⟨_,rfl,nofun,⟨⟨by decide,by decide,Int.natCast_nonneg m,Int.ofNat_lt.mpr (show m<256^4 from Nat.lt_of_le_of_lt hm (by decide))⟩,(by decide:3<5),?_⟩⟩⟩
 clear hM
 refine ⟨_,rfl,nofun,by decide,⟨by decide,by decide,by decide⟩,by decide,?_⟩
 rw [eM]
 refine ⟨⟨by decide,by decide,Int.natCast_nonneg M,Int.ofNat_lt.mpr (show M<256^8 from lM)⟩,(by decide:4<5),?_⟩
 have ln:∀{a b:List UInt8} {n k:Nat},a.length=n→b.length=k→n+k≤16777216→a.length+b.length≤16777216:=fun h h' k=>h▸h'▸k
 have l4:(beN (Int.toNat 4) (Int.toNat m)).reverse.length=4:=by rw [List.length_reverse];exact beN_len 4 _
 have l12:∀{a b:List UInt8},a.length=4→b.length=8→(a++b).length=12:=fun h k=>by rw [List.length_append,h,k]
 have p1:(0:Int)≤605153021707326989568713251046585937826284568576+(m:Int):=by rw [eL];exact Int.natCast_nonneg L
 have p2:605153021707326989568713251046585937826284568576+(m:Int)<256^(20:Int).toNat:=by rw [eL];exact Int.ofNat_lt.mpr (show L<256^20 by lia)
 have q':Q (.bytes ((beN 4 m).reverse++beN 8 M++beN 20 (605153021707326989568713251046585937826284568576+(m:Int)).toNat)) σ1:=by rw [eL];exact q
 exact ⟨_,rfl,nofun,_,rfl,nofun,ln l4 (beN_len 8 _) (by decide),_,rfl,nofun,⟨by decide,by decide,p1,p2⟩,ln (l12 l4 (beN_len 8 _)) (beN_len 20 _) (by decide),q'⟩
end
end Internal
end
section
namespace Internal
section
variable {p:Pm}{σ σ':Sto}{K:KS}
theorem fset_new {n:String}{v:V}:∀{ks:List String} {vs:List V},ks.length=vs.length→hasK n ks=false→fset n v (ks.zip vs)=(ks++[n]).zip (vs++[v])
 | [],[],_,_=>rfl
 |x::r,w::vs,h,k=>by
  have k:cond (n==x) true (hasK n r)=false:=k
  show (if (n==x)=true then (x,v)::r.zip vs else (x,w)::fset n v (r.zip vs))=(x,w)::(r++[n]).zip (vs++[v])
  cases z:n==x with
  |true=>rw [z] at k;cases k
  |false=>rw [z] at k;exact (if_neg nofun).trans (congrArg _ (fset_new (Nat.succ.inj h) k))
 | [],_::_,h,_ |_::_,[],h,_=>nomatch h
noncomputable def initOK (C:Nat):List String→List String→Bool
 |_,[]=>true
 |ks,n::r=>attrOK C n&&!hasK n ks&&initOK C (ks++[n]) r
noncomputable def sets:List String→List X→List S
 |n::r,x::xs=>.asg (.att (.loc 0) n) x::sets r xs
 |_,_=>[]
inductive Evs (dx:Nat)(μ:List V)(σ':Sto):List X→List V→Prop
 |nil:Evs dx μ σ' [] []
 |cons {x v xs vs}:(∀σ1 (Q:PX) (E:PE),Ext [dx] σ' σ1→Q v σ1→wpX ch0 x μ σ1 Q E)→Evs dx μ σ' xs vs→Evs dx μ σ' (x::xs) (v::vs)
theorem init_run {C dx a:Nat}{μ:List V}(h0:μ[0]? = some (.ref a)){Q:PS}{E:PEs}{xs:List X}{vs:List V}(h:Evs dx μ σ' xs vs)(ne:dx≠a):∀{ns:List String} {ks:List String} {ws:List V} {σ1:Sto},ns.length=vs.length→initOK C ks ns=true→ks.length=ws.length→ws.length+vs.length≤900→
  Ext [dx] σ' σ1→σ1 a=some (.inst C dx)→σ1 dx=some (.idict (ks.zip ws))→
  (∀σ2,Ext [dx] σ' σ2→σ2 a=some (.inst C dx)→σ2 dx=some (.idict ((ks++ns).zip (ws++vs)))→Q .next μ σ2)→wpSs ch0 (sets ns xs) μ σ1 Q E:=by
 induction h with
 |nil=>
  intro ns ks ws σ1 hl _ _ _ e g1 g2 q
  cases ns with
  |nil=>exact q σ1 e g1 (by rw [List.append_nil,List.append_nil];exact g2)
  |cons=>cases hl
 |cons hx r ih=>
  intro ns ks ws σ1 hl ok hk hb e g1 g2 q
  cases ns with
  |nil=>cases hl
  |cons n ns=>
   have ok:=Bool.and_eq_true_iff.mp ok
   have ok1:=Bool.and_eq_true_iff.mp ok.1
   have hn:hasK n ks=false:=(Bool.not_eq_true' _).mp ok1.2
   refine hx σ1 _ _ e ⟨_,h0,nofun,C,dx,_,g1,g2,ok1.1,?_,fun σ2 e2 g3=>?_⟩
   ·rw [List.length_zip,hk,Nat.min_self];exact Nat.le_trans (Nat.le_add_right _ _) hb
   rw [fset_new hk hn] at g3
   exact ih (ks:=ks++[n]) (ws:=ws++[_]) (Nat.succ.inj hl) ok.2 (by rw [List.length_append,List.length_append,hk];rfl) (by rw [List.length_append];show _+1+_≤_;rw [Nat.add_assoc,Nat.add_comm 1];exact hb) (e.trans e2)
    (e2 _ _ (fun m=>ne (List.mem_singleton.mp m).symm) g1) g3 fun σ3 e3 g4 g5=>q σ3 e3 g4 (by rw [List.append_assoc,List.append_assoc] at g5;exact g5)
theorem new_obj {Q:ZQ}{Q':PX}{E':PE}{c a dx:Nat}{us:List U}{xs:List X}{vs ws:List V}{d:Fd}(s:SSt p σ K)(q:PQ p σ Q Q')(z:Q (.obj c us) K)(n1:σ dx=none)(n3:dx≠a)(e:Ext [] σ σ')(g1:σ' dx=some (.idict []))(g2:σ' a=some (.inst (clsAddr c) dx))
  (hd:code.i c=some d)(hb:d.body=sets (namesOf c) xs)(ha:(V.ref a::vs).length=d.np)(hx:Evs dx (.ref a::vs++List.replicate (d.nm.length-d.np) .unb) σ' xs ws)(hl:(namesOf c).length=ws.length)(ok:initOK (clsAddr c) [] (namesOf c)=true)(hw:ws.length≤900)
  (r:RUs p σ us ws):wpI code c (.ref a::vs) σ' (fun r σ=>r=.none∧Q' (.ref a) σ) E':=by
 refine ⟨d,hd,ha,?_⟩
 rw [hb]
 refine init_run (ks:=[]) (ws:=[]) rfl hx n3 hl ok rfl (by rw [List.length_nil,Nat.zero_add];exact hw) .refl g2 g1 fun σ2 e2 f1 f2=>⟨rfl,?_⟩
 have x:Ext [] σ σ2:=fun b o ω h=>e2 b o (fun m=>by rw [List.mem_singleton.mp m,n1] at h;cases h) (e.get h)
 exact q (.obj c us) _ _ _ x.wide (s.up x) ⟨a,dx,ws,rfl,f1,f2,r.cold x.cold⟩ z
theorem ev_loc {dx i:Nat}{μ:List V}{v:V}(h:μ[i]? = some v)(n:v≠.unb):∀σ1 (Q:PX) (E:PE),Ext [dx] σ' σ1→Q v σ1→wpX ch0 (.loc i) μ σ1 Q E:=fun ω ω ω ω q=>⟨v,h,n,q⟩
noncomputable def locsF:Nat→Nat→List X
 |_,0=>[]
 |i,n+1=>.loc i::locsF (i+1) n
theorem evs_locs {dx:Nat}{post:List V}:∀{us:List U} {vs:List V} (pre:List V),RUs p σ us vs→Evs dx (pre++vs++post) σ' (locsF pre.length vs.length) vs
 | [],_,_,r=>by cases r;exact .nil
 |u::us,_,pre,⟨v,vs,e,h,r⟩=>by
  subst e
  refine .cons (ev_loc (v:=v) (by rw [List.append_assoc,List.getElem?_append_right (Nat.le_refl _),Nat.sub_self];rfl) h.nu) ?_
  have:=evs_locs (dx:=dx) (post:=post) (pre++[v]) r
  rw [List.length_append,List.append_assoc pre] at this
  exact this
theorem ev_att {dx b dx' i:Nat}{μ:List V}{n:String}{C:Nat}{fs v}(h:μ[i]? = some (.ref b))(g:σ' b=some (.inst C dx'))(g':σ' dx'=some (.idict fs))(n1:b≠dx)(n2:dx'≠dx)(ok:attrOK C n=true)(f:fget n fs=some v) :
  ∀σ1 (Q:PX) (E:PE),Ext [dx] σ' σ1→Q v σ1→wpX ch0 (.att (.loc i) n) μ σ1 Q E:=fun ω ω ω e q=>
 ⟨_,h,nofun,_,_,_,_,e _ _ (fun m=>n1 (List.mem_singleton.mp m)) g,e _ _ (fun m=>n2 (List.mem_singleton.mp m)) g',ok,f,q⟩
theorem ev_sub {dx b i:Nat}{k:Int}{μ vs:List V}{v:V}(h:μ[i]? = some (.ref b))(g:σ' b=some (.list false vs))(n1:b≠dx)(hk:0≤k∧k≤1000000)(f:vs[k.toNat]? = some v) :
  ∀σ1 (Q:PX) (E:PE),Ext [dx] σ' σ1→Q v σ1→wpX ch0 (.sub (.loc i) (.cst (.int k))) μ σ1 Q E:=fun ω ω ω e q=>
 ⟨_,h,nofun,.inl ⟨vs,v,.inr ⟨_,e _ _ (fun m=>n1 (List.mem_singleton.mp m)) g⟩,hk,f,q⟩⟩
inductive H5 (Q:U→Prop):List U→Prop
 |mk {q u x b nu ti be fe li ra r0 r1 r2 r3:U} {l m:List U}:Q (.obj 5 [q,be,r0,r1,r2,r3,b,nu,li,u,ti,x,ra,fe])→H5 Q [q,.obj 4 (nu::ti::be::fe::li::ra::l),u,x,b,.list (r0::r1::r2::r3::m)]
theorem hd1_ {us:List U}{k:U→List U→Prop}{P:List U→Prop}(h:hd1 us k)(f:∀u us,k u us→P (u::us)):P us:=by
 cases us with
 |nil=>exact h.elim
 |cons u us=>exact f u us h
theorem asOZ_ {x:U}{k:List U→Prop}{P:U→Prop}(h:asOZ x k)(f:∀l,k l→P (.obj 4 l)):P x:=by
 cases x<;>first |exact h.elim |skip
 have ⟨b,h⟩:=blt_ h
 cases Nat.eq_of_beq_eq_true b
 exact f _ h
theorem asLZ' {x:U}{k:List U→Prop}{P:U→Prop}(h:asLZ x k)(f:∀l,k l→P (.list l)):P x:=by
 cases x<;>first |exact h.elim |exact f _ h
theorem emp_ {us:List U}{A:Prop}{P:List U→Prop}(h:cond us.isEmpty A False)(f:A→P []):P us:=by
 cases us with
 |nil=>exact f h
 |cons=>exact h.elim
theorem zMk5_ {us:List U}{Q:U→Prop}(z:zMk5 us Q):H5 Q us:=
 hd1_ (P:=H5 Q) z fun ω ω z=>hd1_ (P:=fun r=>H5 Q (_::r)) z fun ω ω z=>hd1_ (P:=fun r=>H5 Q (_::_::r)) z fun ω ω z=>hd1_ (P:=fun r=>H5 Q (_::_::_::r)) z fun ω ω z=>
 hd1_ (P:=fun r=>H5 Q (_::_::_::_::r)) z fun ω ω z=>hd1_ (P:=fun r=>H5 Q (_::_::_::_::_::r)) z fun ω ω z=>emp_ (P:=fun r=>H5 Q (_::_::_::_::_::_::r)) z fun z=>
 asOZ_ (P:=fun i=>H5 Q [_,i,_,_,_,_]) z fun ω z=>hd1_ (P:=fun l=>H5 Q [_,.obj 4 l,_,_,_,_]) z fun ω ω z=>hd1_ (P:=fun l=>H5 Q [_,.obj 4 (_::l),_,_,_,_]) z fun ω ω z=>hd1_ (P:=fun l=>H5 Q [_,.obj 4 (_::_::l),_,_,_,_]) z fun ω ω z=>
 hd1_ (P:=fun l=>H5 Q [_,.obj 4 (_::_::_::l),_,_,_,_]) z fun ω ω z=>hd1_ (P:=fun l=>H5 Q [_,.obj 4 (_::_::_::_::l),_,_,_,_]) z fun ω ω z=>hd1_ (P:=fun l=>H5 Q [_,.obj 4 (_::_::_::_::_::l),_,_,_,_]) z fun ω ω z=>
 asLZ' (P:=fun i=>H5 Q [_,_,_,_,_,i]) z fun ω z=>hd1_ (P:=fun l=>H5 Q [_,_,_,_,_,.list l]) z fun ω ω z=>hd1_ (P:=fun l=>H5 Q [_,_,_,_,_,.list (_::l)]) z fun ω ω z=>hd1_ (P:=fun l=>H5 Q [_,_,_,_,_,.list (_::_::l)]) z fun ω ω z=>
 hd1_ (P:=fun l=>H5 Q [_,_,_,_,_,.list (_::_::_::l)]) z fun ω ω z=>.mk z
inductive EvR (p:Pm)(σ σ':Sto)(dx:Nat)(μ:List V)(xs:List X)(us:List U):Prop
 |mk (ws:List V):Evs dx μ σ' xs ws→RUs p σ us ws→EvR p σ σ' dx μ xs us
section
variable {dx:Nat}{μ:List V}{xs:List X}{us l:List U}{u:U}
theorem EvR.cons {x:X}(h:EvR p σ σ' dx μ xs us)(f:∃v,(∀σ1 (Q:PX) (E:PE),Ext [dx] σ' σ1→Q v σ1→wpX ch0 x μ σ1 Q E)∧RU p σ u v):EvR p σ σ' dx μ (x::xs) (u::us):=by
 cases h with
 |mk ws a b=>obtain ⟨v,c,d⟩:=f;exact ⟨v::ws,.cons c a,v,ws,rfl,d,b⟩
theorem EvR.loc {vs post:List V}{a:V}(r:RUs p σ l vs)(i:Nat)(g:l[i]? = some u)(h:EvR p σ σ' dx (a::vs++post) xs us):EvR p σ σ' dx (a::vs++post) (.loc (i+1)::xs) (u::us):=
 h.cons (by
  obtain ⟨v,e,k⟩:=r.get g
  exact ⟨v,ev_loc (by show (vs++post)[i]? = _;rw [List.getElem?_append_left (List.getElem?_eq_some_iff.mp e).1];exact e) k.nu,k⟩)
end
theorem init_tab {c:Nat}(b:Nat.ble 2 c=true)(b6:c≤6)(h5:Nat.beq c 5=false):∃d,code.i c=some d∧d.body=sets (namesOf c) (locsF 1 (namesOf c).length)∧(namesOf c).length+1=d.np∧initOK (clsAddr c) [] (namesOf c)=true∧(namesOf c).length≤900:=by
 rcases c with _ |_ |_ |_ |_ |_ |_ |c
 ·exact absurd b Bool.false_ne_true
 ·exact absurd b Bool.false_ne_true
 ·exact ⟨_,rfl,rfl,rfl,rfl,by decide⟩
 ·exact ⟨_,rfl,rfl,rfl,rfl,by decide⟩
 ·exact ⟨_,rfl,rfl,rfl,rfl,by decide⟩
 ·exact absurd h5.symm Bool.false_ne_true
 ·exact ⟨_,rfl,rfl,rfl,rfl,by decide⟩
 ·exact absurd b6 (Nat.not_le_of_gt (Nat.le_add_left 7 c))
theorem mk_ok {c us vs}{Q:ZQ}{Q':PX}{E':PE}(z:zMk c us fun u=>Q u K)(r:RUs p σ us vs)(s:SSt p σ K)(q:PQ p σ Q Q')(dx a:Nat)(n1:σ dx=none)(n2:σ a=none)(n3:dx≠a)(σ':Sto)(e:Ext [] σ σ')(g1:σ' dx=some (.idict []))(g2:σ' a=some (.inst (clsAddr c) dx)) :
  wpI code c (.ref a::vs) σ' (fun r σ=>r=.none∧Q' (.ref a) σ) E':=by
 unfold zMk at z
 cases h5:Nat.beq c 5 with
 |false=>
  rw [h5] at z
  have ⟨b,z⟩:=blt_ z
  have b:=Bool.and_eq_true_iff.mp b
  have b1:=Bool.and_eq_true_iff.mp b.1
  have hl:vs.length=(namesOf c).length:=r.len.trans (Nat.eq_of_beq_eq_true b.2)
  exact (init_tab b1.1 (Nat.le_of_ble_eq_true b1.2) h5).elim fun d h=>new_obj s q z n1 n3 e g1 g2 h.1 h.2.1 (by rw [←h.2.2.1,←hl];rfl) (hl▸evs_locs (p:=p) (dx:=dx) (σ':=σ') [.ref a] r) hl.symm h.2.2.2.1 (hl▸h.2.2.2.2) r
 |true=>
  rw [h5] at z
  cases Nat.eq_of_beq_eq_true h5
  have z:zMk5 us (fun u=>Q u K):=z
  have z:=zMk5_ z
  cases z with
  | @mk uq uu ux ub nu ti be fe li ra r0 r1 r2 r3 l m z=>
  have ne:∀{x o},σ x=some o→x≠dx:=fun h m=>by rw [m,n1] at h;cases h
  have bind:∀{i:Nat} {u},[uq,.obj 4 (nu::ti::be::fe::li::ra::l),uu,ux,ub,.list (r0::r1::r2::r3::m)][i]? = some u→∃v,(V.ref a::vs++[])[i+1]? = some v∧RU p σ u v:=fun {i u} g=>by
   rw [List.append_nil];exact r.get g
  have at_:∀(n:String) {u xs us},getU n (namesOf 4) (nu::ti::be::fe::li::ra::l) (fun w=>w=u)→EvR p σ σ' dx (.ref a::vs++[]) xs us→EvR p σ σ' dx (.ref a::vs++[]) (.att (.loc 2) n::xs) (u::us):=fun n {u xs us} g h=>h.cons (by
   obtain ⟨_,k,b,bx,is,rfl,k1,k2,ri⟩:=bind (i:=1) rfl
   obtain ⟨w,v,f,rw',rfl⟩:=getU_f g ri
   exact ⟨v,ev_att k (e.get k1) (e.get k2) (ne k1) (ne k2) (attr_names g) f,rw'⟩)
  have sub_:∀(k:Int) {u xs us},0≤k∧k≤1000000→(r0::r1::r2::r3::m)[k.toNat]? = some u→EvR p σ σ' dx (.ref a::vs++[]) xs us→EvR p σ σ' dx (.ref a::vs++[]) (.sub (.loc 6) (.cst (.int k))::xs) (u::us):=fun j {u xs us} o g h=>h.cons (by
   obtain ⟨_,k,b,rs,rfl,k1,ri⟩:=bind (i:=5) rfl
   obtain ⟨v,f,rv⟩:=ri.get g
   exact ⟨v,ev_sub k (e.get k1) (ne k1) o f,rv⟩)
  cases (EvR.loc r 0 rfl (at_ "beneficiary" rfl (sub_ 0 (by decide) rfl (sub_ 1 (by decide) rfl (sub_ 2 (by decide) rfl (sub_ 3 (by decide) rfl (EvR.loc r 4 rfl (at_ "number" rfl (at_ "limit" rfl (EvR.loc r 2 rfl (at_ "time" rfl (EvR.loc r 3 rfl (at_ "random" rfl (at_ "base_fee" rfl (.mk [] .nil .nil)))))))))))))) :
    EvR p σ σ' dx (.ref a::vs++[]) _ [uq,be,r0,r1,r2,r3,ub,nu,li,uu,ti,ux,ra,fe]) with
  |mk ws hx rx=>exact new_obj s q z n1 n3 e g1 g2 rfl rfl (congrArg (· + 1) r.len) hx rx.len.symm rfl (by rw [rx.len];exact (by decide:14≤900)) rx
end
end Internal
end
section
namespace Internal
theorem of_ok {p:Pm}{n:Nat}{us vs K σ Q Q' E'}(z:(zch n).o us K Q)(r:RUs p σ us vs)(s:SSt p σ K)(q:PQ p σ Q Q'):wpF code n 71 (.ref p.ad::vs) σ Q' E':=by
 have ⟨b,z⟩:=blt_ z
 obtain ⟨m,rfl⟩:=Nat.exists_eq_add_of_le' (Nat.le_of_ble_eq_true b)
 rcases us with _ |⟨u,_ |⟨w,us⟩⟩<;>first |exact z.elim |skip
 obtain ⟨v,_,rfl,r,e⟩:=r
 cases e
 exact asBZ_ (P:=fun v=>wpF code (m+2) 71 [.ref p.ad,v] σ Q' E') z r fun o z=>of_w s z.1.1 z.1.2 fun m K' σ' h x s'=>q (.bytes _) _ _ _ x s' rfl (z.2 m K' h)
theorem draw_ok {p:Pm}{n:Nat}{us vs K σ Q Q' E'}(z:zDraw us K Q)(r:RUs p σ us vs)(s:SSt p σ K)(q:PQ p σ Q Q'):wpF code (n+1) 30 vs σ Q' E':=by
 unfold zDraw at z
 replace z:=z.h
 rcases us with _ |⟨w,_ |⟨u,_ |⟨x,us⟩⟩⟩<;>first |exact z.elim |(cases w<;>exact z.elim) |skip
 cases w<;>first |exact z.elim |skip
 obtain ⟨v,_,rfl,e,v',_,rfl,r,e'⟩:=r
 cases e;cases e'
 refine asIZ_ (P:=fun v=>wpF code (n+1) 30 [.ref p.aw,v] σ Q' E') z r fun i z=>draw_w s.well z.1 fun k h σ' e w=>?_
 have hot:∃o,σ p.aw=some o∧o.hot=true:=s.hot (.head _)
 obtain ⟨o,g,ho⟩:=hot
 have c:=e.cold1 g ho
 refine q (.int _) K _ _ (fun a o m h=>e a o (fun x=>m (List.mem_singleton.mp x▸.head _)) h) ⟨w,?_,s.bd,c _ _ s.t3 rfl,c _ _ s.t4 rfl⟩ rfl (z.2 k h)
 cases s.num with
 |mk d a b k=>
  refine ⟨d,c _ _ a rfl,c _ _ b rfl,e _ _ (fun x=>?_) k⟩
  cases s.well with |mk l i s' ns a'=>rw [List.mem_singleton.mp x,a'] at k;cases k
theorem cw_ok {p:Pm}:∀n,CW p (zch n) ⟨wpF code n,wpI code⟩
 |0=>⟨fun z ω ω ω ω=>(zF_zero z).elim,mk_ok,fun {_ _ _ _ _ _ E'} z r s q=>of_ok (E':=E') z r s q⟩
 |n+1=>⟨fun {f us vs K σ Q E Q' E'} z r s q e=>by
   have z:cond (Nat.beq f 30) (zDraw us K Q) (match code.f f with |some d=>zBody (zch n) d us K Q E |none=>False):=(zF_succ▸z:Wd _).h
   cases h:Nat.beq f 30 with
   |true=>rw [h] at z;cases Nat.eq_of_beq_eq_true h;exact draw_ok z r s q
   |false=>
    rw [h] at z
    have z:(match code.f f with |some d=>zBody (zch n) d us K Q E |none=>False):=z
    cases k:code.f f with
    |none=>rw [k] at z;exact z.elim
    |some d=>rw [k] at z;exact ⟨d,k,body_ok (cw_ok n) z r s q e⟩,mk_ok,of_ok⟩
noncomputable def ZLAW (N:Nat):Prop:=∀b:Int,3≤b→b≤6→(∀Q E,Q (.bool true) []→zF code N 50 [.well,.int b] [] Q E)∧(∀Q E,Q (.bool true) []→zF code N 53 [.well] [] Q E)∧zF code N 51 [.well,.int b,.dig] [] (fun u ω=>u=.bool true) fun ω ω=>False
noncomputable def LAWn (N:Nat):Prop:=∀(a:Nat) (ns:List Int),ns.length≤63→a≠383→a≠384→wpSs ⟨wpF code N,wpI code⟩ c_law.body [.ref a,.unb,.unb,.unb] (sto0 a ns) (fun f ω ω=>f=.ret (.bool true)) (fun ω ω ω=>False)
theorem cl_mod {ch:Ch}{chk:Sto→Prop}{Q:List V→Sto→Prop}{E:PE}{σ:Sto}(hc:chk σ):∀(ns:List Int) (acc:List V),Q (acc++ns.map fun n=>.int (n % 2147483647)) σ→
  wpCL chk (fun item acc σ kont=>bindC 1 false item σ fun ws=>wpAnd ch [] (ws++[]) σ (fun b σ=>cond b (wpX ch (.bin .mod (.loc 0) (.cst (.int 2147483647))) (ws++[]) σ (fun r σ=>kont (acc++[r]) σ) E) (kont acc σ)) E) (ns.map V.int) acc σ Q
 | [],acc,q=>⟨hc,by rw [List.map_nil,List.append_nil] at q;exact q⟩
 |n::r,acc,q=>⟨hc,(if_neg nofun).mpr ⟨rfl,_,rfl,nofun,(by decide:(0:Int)<2147483647),cl_mod hc r _ (by rw [List.append_assoc];exact q)⟩⟩
theorem cut_60 (ns:List Int):∃ms:List Int,cut (ns.map V.int) none (some 60)=ms.map V.int∧ms.length≤60:=
 ⟨ns.take (clip (ns.map V.int).length 60),List.map_take.symm,Nat.le_trans (List.length_take_le _ _) (Int.ofNat_le.mp (by rw [clip,Int.toNat_of_nonneg (Int.le_max_left ..)];exact Int.max_le.mpr ⟨by decide,Int.min_le_left _ _⟩))⟩
theorem zF_draw (n:Nat){us K Q E}(h:zDraw us K Q):(zch (n+1)).f 30 us K Q E:=by
 show zF code (n+1) 30 us K Q E
 rw [zF_succ];exact .mk h
theorem law_tail {n a:Nat}{p:Pm}{σ:Sto}(Z:ZLAW (n+1))(S:SSt p σ []):wpSs ⟨wpF code (n+1),wpI code⟩ (c_law.body.drop 1) [.ref a,.ref p.aw,.ref p.ad,.unb] σ (fun f ω ω=>f=.ret (.bool true)) (fun ω ω ω=>False):=by
 have C:=cw_ok (p:=p) (n+1)
 have no:∀{σ:Sto} {E':PE},PEz p σ (fun ω ω=>False) E':=fun ω ω ω ω ω z=>z.elim
 refine ⟨_,rfl,nofun,C.f (us:=[.well,.int 4]) (K:=[]) (Q:=fun u K=>∃r:Nat,u=.int r∧(r:Int)<4∧K=[]) (zF_draw n (by unfold zDraw;exact ⟨by decide,fun r h=>⟨r,rfl,h,rfl⟩⟩)) ⟨_,_,rfl,rfl,_,_,rfl,rfl,rfl⟩ S (fun u K v σ8 ω s8 r8 z=>?_) no⟩
 obtain ⟨r,rfl,hr,rfl⟩:=z
 cases r8
 obtain ⟨Z1,Z2,Z3⟩:=Z (3+r) (by lia) (by lia)
 refine ⟨(by decide:3<4),⟨_,rfl,nofun,_,rfl,nofun,C.f (us:=[.well,.int (3+r)]) (Q:=fun u K=>u=.bool true∧K=[]) (Z1 _ _ ⟨rfl,rfl⟩) ⟨_,_,rfl,rfl,_,_,rfl,rfl,rfl⟩ s8 (fun u K v σ9 ω s9 r9 z=>?_) no⟩⟩
 obtain ⟨rfl,rfl⟩:=z
 cases r9
 refine ⟨_,rfl,nofun,C.f (us:=[.well]) (Q:=fun u K=>u=.bool true∧K=[]) (Z2 _ _ ⟨rfl,rfl⟩) ⟨_,_,rfl,rfl,rfl⟩ s9 (fun u K v σ10 ω s10 r10 z=>?_) no⟩
 obtain ⟨rfl,rfl⟩:=z
 cases r10
 refine ⟨_,rfl,nofun,_,rfl,nofun,_,rfl,nofun,C.f (us:=[.well,.int (3+r),.dig]) Z3 ⟨_,_,rfl,rfl,_,_,rfl,rfl,_,_,rfl,rfl,rfl⟩ s10 (fun u K v σ11 ω s11 r11 z=>?_) no⟩
 subst z
 cases r11
 rfl
theorem law_of_z {n:Nat}(Z:ZLAW (n+1)):LAWn (n+1):=by
 intro a ns hl n3 n4
 have t3:sto0 a ns 383=some (.tup sizesV):=rfl
 have t4:sto0 a ns 384=some (.tup namesV):=rfl
 have ga:sto0 a ns a=some (.list false (ns.map V.int)):=(if_neg n3).trans ((if_neg n4).trans (if_pos rfl))
 generalize sto0 a ns=σ at t3 t4 ga
 obtain ⟨ms,hm,hm2⟩:=cut_60 ns
 refine ⟨_,rfl,nofun,.inr ⟨_,_,ga,by rw [List.length_map];exact Nat.le_trans hl (by decide),fun b σ1 ω e1 g1=>.inr (.inl ⟨_,_,g1,?_,?_⟩)⟩⟩
 ·rw [hm,List.length_map];exact Nat.le_trans hm2 (by decide)
 rw [hm] at g1⊢
 refine cl_mod ⟨_,g1⟩ ms [] fun c σ2 n2 e2 g2 w σ3 n3' e3 g3 dx g σ4 n4' n5 n6 e4 g4 g5=>?_
 have hgw:w≠g:=fun h=>by rw [←h,g3] at n5;cases n5
 refine ⟨c_Numbered_init,rfl,rfl,rfl,rfl,fun kd σ5 n7 e5 g6=>⟨_,rfl,nofun,_,_,_,e5.get g5,e5.get g4,rfl,by decide,fun σ6 e6 g7=>⟨rfl,fun t σ7 ω e7 g8=>?_⟩⟩⟩
 refine ⟨t,_,rfl,.inl g8,rfl,(by decide:1<4),(by decide:2<4),law_tail (p:=⟨w,g,kd⟩) Z ?_⟩
 have up6:∀{x o},σ4 x=some o→x≠dx→σ7 x=some o:=fun h n=>e7.get (e6 _ _ (fun m=>n (List.mem_singleton.mp m)) (e5.get h))
 have fr:∀{x o},σ3 x=some o→σ7 x=some o:=fun h=>up6 (e4.get h) fun z=>by rw [z,n4'] at h;cases h
 ·refine ⟨⟨c,0,1,ms.map fun n=>n % 2147483647,fr g3,?_,by decide,by decide,by decide,fun n hn=>?_,by rw [List.length_map];exact hm2⟩,⟨dx,up6 g5 (Ne.symm n6),e7.get g7,?_⟩,nofun,fr (e3.get (e2.get (e1.get t3))),fr (e3.get (e2.get (e1.get t4)))⟩
  ·rw [List.map_map];exact fr (e3.get g2)
  ·exact (List.mem_map.mp hn).elim fun x z=>z.2▸⟨Int.emod_nonneg _ (by decide),Int.emod_lt_of_pos _ (by decide)⟩
  ·exact e7.get (e6 _ _ (fun m=>by rw [show kd=dx from List.mem_singleton.mp m,g4] at n7;cases n7) g6)
end Internal
end
section
namespace Internal
theorem clip_n (k n:Nat):clip k (n:Int)=min n k:=by
 unfold clip
 rw [if_neg (Int.not_lt.mpr (Int.natCast_nonneg n))]
 by_cases h:n≤k
 ·rw [Nat.min_eq_left h,Int.min_eq_left (Int.ofNat_le.mpr h),Int.max_eq_right (Int.natCast_nonneg _),Int.toNat_natCast]
 ·rw [Nat.min_eq_right (Nat.le_of_not_le h),Int.min_eq_right (Int.ofNat_le.mpr (Nat.le_of_not_le h)),Int.max_eq_right (Int.natCast_nonneg _),Int.toNat_natCast]
theorem take_m {α:Type}(l:List α)(n:Nat):l.take (min n l.length)=l.take n:=by
 by_cases h:n≤l.length
 ·rw [Nat.min_eq_left h]
 ·rw [Nat.min_eq_right (Nat.le_of_not_le h),List.take_length,List.take_of_length_le (Nat.le_of_not_le h)]
theorem drop_m {α:Type}(l:List α)(n:Nat):l.drop (min n l.length)=l.drop n:=by
 by_cases h:n≤l.length
 ·rw [Nat.min_eq_left h]
 ·rw [Nat.min_eq_right (Nat.le_of_not_le h),List.drop_length,List.drop_of_length_le (Nat.le_of_not_le h)]
theorem cut_t {α:Type}(l:List α){i:Int}{n:Nat}(h:i=n):cut l none (some i)=l.take n:=by
 subst h
 show (l.drop 0).take (clip l.length (n:Int)-0)=_
 rw [clip_n];exact take_m l n
theorem cut_d {α:Type}(l:List α){i:Int}{n:Nat}(h:i=n):cut l (some i) none=l.drop n:=by
 subst h
 show (l.drop (clip l.length (n:Int))).take (l.length-clip l.length (n:Int))=_
 rw [clip_n,drop_m,List.take_of_length_le (by rw [List.length_drop];exact Nat.sub_le_sub_left (Nat.min_le_left ..) _)]
theorem cut_b {α:Type}(l:List α){i j:Int}{a b:Nat}(h:i=a)(k:j=b):cut l (some i) (some j)=(l.drop a).take (b-a):=by
 subst h;subst k
 show (l.drop (clip l.length (a:Int))).take (clip l.length (b:Int)-clip l.length (a:Int))=_
 rw [clip_n,clip_n,drop_m]
 by_cases h:a≤l.length
 ·rw [Nat.min_eq_left h,←take_m (l.drop a) (b-a),List.length_drop,Nat.sub_min_sub_right]
 ·rw [List.drop_of_length_le (Nat.le_of_not_le h),List.take_nil,List.take_nil]
noncomputable abbrev L8:=List UInt8
theorem snoc {P:L8→Prop}(h0:P [])(h1:∀l b,P l→P (l++[b])):∀l,P l:=fun l=>by
 rw [←l.reverse_reverse]
 induction l.reverse with
 |nil=>exact h0
 |cons b r ih=>rw [List.reverse_cons];exact h1 _ _ ih
theorem valB_nil:valB []=0:=rfl
theorem valB_snoc (l:L8)(b:UInt8):valB (l++[b])=valB l*256+b.toNat:=by simp [valB]
theorem valB_one (b:UInt8):valB [b]=b.toNat:=by simp [valB]
theorem valB_app (a b:L8):valB (a++b)=valB a*256^b.length+valB b:=by
 induction b using snoc with
 |h0=>simp [valB]
 |h1 l c ih=>rw [←List.append_assoc,valB_snoc,ih,valB_snoc,List.length_append,List.length_singleton,Nat.pow_succ,Nat.add_mul,Nat.mul_assoc];lia
theorem valB_lt (l:L8):valB l<256^l.length:=by
 induction l using snoc with
 |h0=>simp [valB]
 |h1 l c ih=>rw [valB_snoc,List.length_append,List.length_singleton,Nat.pow_succ];have:=c.toNat_lt;lia
theorem beN_ln:∀k x,(beN k x).length=k
 |0,_=>rfl
 |k+1,x=>by simp [beN,beN_ln k]
theorem u8n (n:Nat):(UInt8.ofNat n).toNat=n % 256:=by simp
theorem valB_beN:∀k x,valB (beN k x)=x % 256^k
 |0,x=>by simp [beN,valB,Nat.mod_one]
 |k+1,x=>by
  rw [beN,valB_snoc,valB_beN k,u8n,Nat.mod_mod,Nat.pow_succ,Nat.mul_comm (256^k) 256,Nat.mod_mul]
  lia
theorem valB_beN' {k x}(h:x<256^k):valB (beN k x)=x:=by rw [valB_beN,Nat.mod_eq_of_lt h]
theorem u8o (b:UInt8):UInt8.ofNat b.toNat=b:=by simp
theorem beN_valB (l:L8):beN l.length (valB l)=l:=by
 induction l using snoc with
 |h0=>rfl
 |h1 l c ih=>
  have hc:=c.toNat_lt
  rw [List.length_append,List.length_singleton,beN,valB_snoc,show (valB l*256+c.toNat)/256=valB l by lia,show (valB l*256+c.toNat) % 256=c.toNat by lia,ih,u8o]
theorem beN_valB' {l:L8}{k}(h:l.length=k):beN k (valB l)=l:=by subst h;exact beN_valB l
theorem beN_inj {k x y}(hx:x<256^k)(hy:y<256^k)(h:beN k x=beN k y):x=y:=by rw [←valB_beN' hx,←valB_beN' hy,h]
noncomputable def figK:Nat→Nat→L8
 |0,_=>[]
 |k+1,n=>cond (n.beq 0) [] (figK k (n/256)++[UInt8.ofNat (n % 256)])
noncomputable def fig (n:Nat):L8:=figK n n
theorem figK_0:∀k,figK k 0=[]
 |0=>rfl
 |_+1=>rfl
theorem dsn (n:Nat):(n+1)/256≤n:=Nat.le_of_lt_succ (Nat.div_lt_self (Nat.succ_pos n) (by decide))
theorem figK_any:∀k j n,n≤k→n≤j→figK k n=figK j n
 |0,j,0,_,_=>(figK_0 j).symm
 |k+1,j,0,_,_=>(figK_0 j).symm
 |k+1,j+1,n+1,hk,hj=>congrArg (·++_) (figK_any k j _ (Nat.le_trans (dsn n) (Nat.le_of_succ_le_succ hk)) (Nat.le_trans (dsn n) (Nat.le_of_succ_le_succ hj)))
theorem fig_0:fig 0=[]:=rfl
theorem fig_s:∀{n},n≠0→fig n=fig (n/256)++[UInt8.ofNat (n % 256)]
 |0,h=>absurd rfl h
 |n+1,_=>congrArg (·++_) (figK_any n _ _ (dsn n) (Nat.le_refl _))
theorem valB_fig (n:Nat):valB (fig n)=n:=by
 induction n using Nat.strongRecOn with
 |_ n ih=>
  by_cases h:n=0
  ·subst h;rw [fig_0];rfl
  ·rw [fig_s h,valB_snoc,ih _ (by lia),u8n];lia
theorem fig_inj {a b}(h:fig a=fig b):a=b:=by rw [←valB_fig a,←valB_fig b,h]
theorem fig_valB (l:L8):l.take 1≠[0]→fig (valB l)=l:=by
 induction l using snoc with
 |h0=>intro _;exact fig_0
 |h1 l c ih=>
  intro h
  have hc:=c.toNat_lt
  cases l with
  |nil=>
   have:c.toNat≠0:=fun z=>h (by simp;rw [←u8o c,z];rfl)
   rw [valB_snoc,fig_s (by rw [valB_nil];lia),valB_nil,show (0*256+c.toNat)/256=0 by lia,show (0*256+c.toNat) % 256=c.toNat by lia,fig_0,u8o]
  |cons a r=>
   have hi:=ih (by simpa using h)
   have:valB (a::r)≠0:=fun z=>by rw [z,fig_0] at hi;cases hi
   rw [valB_snoc,fig_s (by lia),show (valB (a::r)*256+c.toNat)/256=valB (a::r) by lia,show (valB (a::r)*256+c.toNat) % 256=c.toNat by lia,hi,u8o]
theorem fig_ne (n:Nat):(fig n).take 1≠[0]:=by
 induction n using Nat.strongRecOn with
 |_ n ih=>
  by_cases h:n=0
  ·subst h;rw [fig_0];simp
  ·rw [fig_s h]
   have hi:=ih (n/256) (by lia)
   by_cases z:n/256=0
   ·rw [z,fig_0]
    intro e
    have e:UInt8.ofNat (n % 256)=0:=by simpa using e
    have e:(UInt8.ofNat (n % 256)).toNat=0:=by rw [e];rfl
    rw [u8n] at e;lia
   ·have:fig (n/256)≠[]:=by rw [fig_s z];simp
    cases hf:fig (n/256) with
    |nil=>exact absurd hf this
    |cons a r=>rw [hf] at hi;simpa using hi
theorem fig_len {n k}(h:n<256^k):(fig n).length≤k:=by
 induction k generalizing n with
 |zero=>rw [show n=0 by simpa using h,fig_0];simp
 |succ k ih=>
  by_cases z:n=0
  ·subst z;rw [fig_0];simp
  ·rw [fig_s z,List.length_append,List.length_singleton]
   have:=@ih (n/256) (by rw [Nat.pow_succ] at h;lia)
   lia
theorem beN_hd:∀j x,beN (j+1) x=UInt8.ofNat (x/256^j % 256)::beN j x
 |0,x=>by simp [beN]
 |j+1,x=>by
  rw [beN,beN_hd j,beN,Nat.div_div_eq_div_mul,Nat.pow_succ,Nat.mul_comm 256];rfl
theorem beN_fig {k n}(h:n<256^k)(g:k≠0→256^(k-1)≤n):beN k n=fig n:=by
 have:(beN k n).take 1≠[0]:=by
  cases k with
  |zero=>simp [beN]
  |succ j=>
   rw [beN_hd]
   intro e
   have e:UInt8.ofNat (n/256^j % 256)=0:=by simpa using e
   have e:(UInt8.ofNat (n/256^j % 256)).toNat=0:=by rw [e];rfl
   rw [u8n,Nat.mod_mod] at e
   have g:=g (by simp)
   rw [Nat.add_sub_cancel] at g
   have h1:1≤n/256^j:=(Nat.le_div_iff_mul_le (Nat.pow_pos (by decide))).mpr (by lia)
   have h2:n/256^j<256:=Nat.div_lt_of_lt_mul (by rw [Nat.pow_succ] at h;lia)
   lia
 rw [←fig_valB _ this,valB_beN' h]
theorem p256 (k:Nat):256^k=2^(8*k):=by rw [Nat.pow_mul]
theorem num_octets (n:Nat):n<256^((bitlen n+7)/8)∧beN ((bitlen n+7)/8) n=fig n:=by
 by_cases z:n=0
 ·subst z;rw [fig_0];exact ⟨by decide,rfl⟩
 ·have e:bitlen (n:Int)=n.log2+1:=by unfold bitlen;rw [if_neg (by lia)];rfl
  rw [e]
  have h:n<256^((n.log2+1+7)/8):=by
   rw [p256];exact (Nat.log2_lt z).mp (by lia)
  refine ⟨h,beN_fig h fun ω=>?_⟩
  rw [p256];exact (Nat.le_log2 z).mp (by lia)
inductive It where
 |b (l:L8)
 |l (ts:List It)
noncomputable def hdB (low n:Nat):L8:=if n<56 then [UInt8.ofNat (low+n)] else UInt8.ofNat (low+55+(fig n).length)::fig n
mutual
noncomputable def enc:It→L8
 |.b l=>if l.length=1∧(l.getD 0 0).toNat<128 then l else hdB 128 l.length++l
 |.l ts=>hdB 192 (encs ts).length++encs ts
noncomputable def encs:List It→L8
 | []=>[]
 |t::r=>enc t++encs r
end
mutual
noncomputable def dep:It→Nat
 |.b _=>0
 |.l ts=>deps ts
noncomputable def deps:List It→Nat
 | []=>0
 |t::r=>max (dep t+1) (deps r)
end
mutual
noncomputable def itU:It→U
 |.b l=>.bytes l
 |.l ts=>.list (itUs ts)
noncomputable def itUs:List It→List U
 | []=>[]
 |t::r=>itU t::itUs r
end
theorem encs_app (a b:List It):encs (a++b)=encs a++encs b:=by
 induction a with
 |nil=>simp [encs]
 |cons t r ih=>simp [encs,ih]
theorem itUs_app (a b:List It):itUs (a++b)=itUs a++itUs b:=by
 induction a with
 |nil=>simp [itUs]
 |cons t r ih=>simp [itUs,ih]
theorem itUs_map (a:List It):itUs a=a.map itU:=by
 induction a with
 |nil=>simp [itUs]
 |cons t r ih=>simp [itUs,ih]
theorem deps_mem {ts:List It}{t}(h:t∈ts):dep t+1≤deps ts:=by
 induction ts with
 |nil=>cases h
 |cons a r ih=>
  rw [deps]
  rcases List.mem_cons.mp h with rfl |h
  ·lia
  ·have:=ih h;lia
theorem hdB_pos (low n:Nat):0<(hdB low n).length:=by unfold hdB;split<;>simp
theorem enc_pos (t:It):0<(enc t).length:=by
 cases t with
 |b l=>
  rw [enc]
  split
  ·lia
  ·have:=hdB_pos 128 l.length;simp;lia
 |l ts=>rw [enc];have:=hdB_pos 192 (encs ts).length;simp;lia
theorem encs_len (ts:List It):ts.length≤(encs ts).length:=by
 induction ts with
 |nil=>simp
 |cons t r ih=>rw [encs];have:=enc_pos t;simp;lia
noncomputable def hd_ (b:Bool)(G:Nat)(r:L8):Option (Bool×Nat×Nat):=
 if G≤55 then (if G>r.length then none else if b=false∧G=1∧(r.getD 0 0).toNat<128 then none else some (b,1,G))
 else if G-55>r.length then none else if (r.take (G-55)).take 1=[0] then none else if valB (r.take (G-55))≤55 then none else if G-55+valB (r.take (G-55))>r.length then none else some (b,1+(G-55),valB (r.take (G-55)))
noncomputable def rHead:L8→Option (Bool×Nat×Nat)
 | []=>none
 |f::r=>if f.toNat<128 then some (false,0,1) else hd_ (decide (192≤f.toNat)) (f.toNat-(if 192≤f.toNat then 192 else 128)) r
theorem rHead_c {f:UInt8}{r:L8}(h1:¬f.toNat<128):rHead (f::r)=hd_ (decide (192≤f.toNat)) (f.toNat-(if 192≤f.toNat then 192 else 128)) r:=if_neg h1
theorem u8lt {n:Nat}(h:n<256):(UInt8.ofNat n).toNat=n:=by rw [u8n,Nat.mod_eq_of_lt h]
theorem no_ {α:Type}{c:Prop}[Decidable c]{x:Option α}{z:α}{P:Prop}(e:(if c then none else x)=some z)(k:¬c→x=some z→P):P:=by
 by_cases h:c
 ·rw [if_pos h] at e;exact absurd e.symm (Option.some_ne_none z)
 ·rw [if_neg h] at e;exact k h e
theorem s3 {b b':Bool}{h h' n n':Nat}{P:Bool→Nat→Nat→Prop}(e:some (b,h,n)=some (b',h',n'))(k:P b h n):P b' h' n':=by
 have e:=Option.some.inj e
 have:P (b,h,n).1 (b,h,n).2.1 (b,h,n).2.2:=k
 rw [e] at this;exact this
noncomputable def lo_ (b:Bool):Nat:=cond b 192 128
theorem rHead_lo {b:Bool}{G:Nat}{r:L8}(hG:G<64):rHead (UInt8.ofNat (lo_ b+G)::r)=hd_ b G r:=by
 cases b with
 |false=>
  have t:(UInt8.ofNat (128+G)).toNat=128+G:=u8lt (Nat.add_lt_add_left (Nat.lt_trans hG (show 64<128 by decide)) 128)
  have z:¬192≤128+G:=Nat.not_le_of_lt (Nat.add_lt_add_left (k:=128) hG)
  exact (rHead_c (by show ¬(UInt8.ofNat (128+G)).toNat<128;rw [t];exact Nat.not_lt_of_le (Nat.le_add_right ..))).trans (by show hd_ (decide (192≤(UInt8.ofNat (128+G)).toNat)) _ r=_;rw [show UInt8.ofNat (lo_ false+G)=UInt8.ofNat (128+G) from rfl,t,decide_eq_false z,if_neg z,Nat.add_sub_cancel_left])
 |true=>
  have t:(UInt8.ofNat (192+G)).toNat=192+G:=u8lt (Nat.add_lt_add_left hG 192)
  have z:192≤192+G:=Nat.le_add_right ..
  exact (rHead_c (by show ¬(UInt8.ofNat (192+G)).toNat<128;rw [t];exact Nat.not_lt_of_le (Nat.le_trans (by decide) z))).trans (by show hd_ (decide (192≤(UInt8.ofNat (192+G)).toNat)) _ r=_;rw [show UInt8.ofNat (lo_ true+G)=UInt8.ofNat (192+G) from rfl,t,decide_eq_true z,if_pos z,Nat.add_sub_cancel_left])
theorem rHead_hdB {b:Bool}{n:Nat}{q:L8}(h:n≤q.length)(hq:n<256^8)(hs:¬(b=false∧n=1∧(q.getD 0 0).toNat<128)) :
  rHead (hdB (lo_ b) n++q)=some (b,(hdB (lo_ b) n).length,n):=by
 unfold hdB
 by_cases c:n<56
 ·rw [if_pos c]
  exact (rHead_lo (Nat.lt_trans c (by decide))).trans ((if_pos (Nat.le_of_lt_succ c)).trans ((if_neg (Nat.not_lt_of_le h)).trans (if_neg hs)))
 ·rw [if_neg c]
  have fp:1≤(fig n).length:=by rw [fig_s fun z=>c (Nat.lt_of_le_of_lt (Nat.le_of_eq z) (by decide)),List.length_append];exact Nat.le_add_left ..
  have fl:55+(fig n).length<64:=Nat.add_lt_add_left (Nat.lt_succ_of_le (fig_len hq)) 55
  have ft:(List.append (fig n) q).take (fig n).length=fig n:=List.take_left
  have fa:(List.append (fig n) q).length=(fig n).length+q.length:=List.length_append
  rw [Nat.add_assoc]
  refine (rHead_lo fl).trans ((if_neg (Nat.not_le_of_lt (Nat.lt_add_of_pos_right fp))).trans ?_)
  rw [Nat.add_sub_cancel_left,ft,valB_fig,fa,if_neg (Nat.not_lt_of_le (Nat.le_add_right ..)),if_neg (fig_ne n),if_neg fun z=>c (Nat.lt_succ_of_le z),if_neg (Nat.not_lt_of_le (Nat.add_le_add_left h _)),Nat.add_comm 1]
  rfl
structure HdI (s:L8)(b:Bool)(h n:Nat):Prop where
 p:0<h
 l:h+n≤s.length
 t:s.take h=hdB (lo_ b) n
 w:¬(b=false∧n=1∧((s.drop h).getD 0 0).toNat<128)
theorem hd_inv {x:Bool}{G:Nat}{r:L8}{b h n}(e:hd_ x G r=some (b,h,n)):HdI (UInt8.ofNat (lo_ x+G)::r) b h n:=by
 unfold hd_ at e
 by_cases c2:G≤55
 ·rw [if_pos c2] at e
  exact no_ e fun c3 e=>no_ e fun c4 e=>s3 (P:=HdI _) e ⟨Nat.one_pos,by rw [Nat.add_comm];exact Nat.succ_le_succ (Nat.le_of_not_gt c3),(if_pos (Nat.lt_succ_of_le c2)).symm,c4⟩
 ·rw [if_neg c2] at e
  refine no_ e fun c3 e=>no_ e fun c4 e=>no_ e fun c5 e=>no_ e fun c6 e=>s3 (P:=HdI _) e ⟨Nat.add_pos_left Nat.one_pos _,by rw [Nat.add_assoc,Nat.add_comm];exact Nat.succ_le_succ (Nat.le_of_not_gt c6),?_,fun z=>c5 (Nat.le_trans (Nat.le_of_eq z.2.1) (by decide))⟩
  rw [hdB,if_neg fun z=>c5 (Nat.le_of_lt_succ z),fig_valB _ c4,Nat.add_comm 1,List.take_succ_cons,List.length_take,Nat.min_eq_left (Nat.le_of_not_gt c3),Nat.add_assoc,Nat.add_sub_of_le (Nat.le_of_not_le c2)]
theorem hd_inv' {x:Bool}{f:UInt8}{r:L8}{k:Nat}{b h n}(hk:k=lo_ x)(z:k≤f.toNat)(e:hd_ x (f.toNat-k) r=some (b,h,n)):HdI (f::r) b h n:=by
 have:=hd_inv e
 rw [←hk,Nat.add_sub_of_le z,u8o] at this
 exact this
inductive Hd1 (s:L8):Bool→Nat→Nat→Prop
 |z:(s.getD 0 0).toNat<128→1≤s.length→Hd1 s false 0 1
 |i {b h n}:HdI s b h n→Hd1 s b h n
theorem rHead_inv {s:L8}{b h n}(e:rHead s=some (b,h,n)):Hd1 s b h n:=by
 cases s with
 |nil=>exact absurd e.symm (Option.some_ne_none _)
 |cons f r=>
  by_cases c1:f.toNat<128
  ·exact s3 (P:=Hd1 _) ((if_pos c1).symm.trans e) (.z c1 (Nat.succ_le_succ (Nat.zero_le _)))
  ·have e:=(rHead_c c1).symm.trans e
   by_cases z:192≤f.toNat
   ·rw [decide_eq_true z,if_pos z] at e
    exact .i (hd_inv' (x:=true) rfl z e)
   ·rw [decide_eq_false z,if_neg z] at e
    exact .i (hd_inv' (x:=false) rfl (Nat.le_of_not_lt c1) e)
theorem take_hdB {s:L8}{h n}{p:L8}(e:s.take h=p):s.take (h+n)=p++(s.drop h).take n:=by
 subst e
 rw [List.take_add]
theorem getD_app {l r:L8}(h:l.length=1):(l++r).getD 0 0=l.getD 0 0:=by
 obtain ⟨x,rfl⟩:=List.length_eq_one_iff.mp h;rfl
noncomputable def isL:It→Bool
 |.b _=>false
 |.l _=>true
noncomputable def bodyOf:It→L8
 |.b l=>l
 |.l ts=>encs ts
inductive EH (t:It)(s:L8):Prop
 |mk (h n:Nat):rHead s=some (isL t,h,n)→(s.drop h).take n=bodyOf t→EH t s
theorem EH.hd {b:Bool}{l r:L8}{t:It}(hb:isL t=b)(hl:bodyOf t=l)(hs:(l++r).length≤100000)(hn:¬(b=false∧l.length=1∧((l++r).getD 0 0).toNat<128)):EH t (hdB (lo_ b) l.length++(l++r)):=
 .mk (hdB (lo_ b) l.length).length l.length ((rHead_hdB (by rw [List.length_append];exact Nat.le_add_right ..) (Nat.lt_of_le_of_lt (by rw [List.length_append] at hs;exact Nat.le_trans (Nat.le_add_right ..) hs) (by decide)) hn).trans (by rw [hb])) (by rw [List.drop_left,List.take_left,hl])
theorem enc_head {t:It}{s:L8}(hp:enc t <+: s)(hs:s.length≤100000):EH t s:=by
 obtain ⟨r,rfl⟩:=hp
 cases t with
 |b l=>
  rw [enc] at hs⊢
  by_cases c:l.length=1∧(l.getD 0 0).toNat<128
  ·rw [if_pos c]
   obtain ⟨x,rfl⟩:=List.length_eq_one_iff.mp c.1
   exact .mk 0 1 (if_pos c.2) rfl
  ·rw [if_neg c,List.append_assoc] at hs⊢
   rw [List.length_append] at hs
   refine .hd rfl rfl (Nat.le_trans (Nat.le_add_left ..) hs) fun z=>c ⟨z.2.1,?_⟩
   have:=z.2.2
   rwa [getD_app z.2.1] at this
 |l ts=>
  rw [enc,List.append_assoc] at hs⊢
  rw [List.length_append] at hs
  exact .hd (b:=true) rfl rfl (Nat.le_trans (Nat.le_add_left ..) hs) fun z=>Bool.noConfusion z.1
theorem no_enc {s:L8}(hs:s.length≤100000)(h:rHead s=none)(t:It)(ht:enc t <+: s):False:=by
 cases enc_head ht hs with
 |mk _ _ e _=>exact absurd (e.symm.trans h) (Option.some_ne_none _)
theorem getD_take {l:L8}{n:Nat}(h:n=1):(l.take n).getD 0 0=l.getD 0 0:=by
 subst h;cases l<;>rfl
theorem Hd1.b {s:L8}{b:Bool}{h n:Nat}(H:Hd1 s b h n):b=false→h+n≤s.length∧s.take (h+n)=enc (.b ((s.drop h).take n)):=by
 cases H with
 |z h4 h5=>
  refine fun ω=>⟨h5,?_⟩
  cases s with
  |nil=>exact absurd h5 (by decide)
  |cons x r=>rw [enc];exact (if_pos ⟨rfl,h4⟩).symm
 |i H=>
  intro e;subst e
  refine ⟨H.l,?_⟩
  have el:((s.drop h).take n).length=n:=by rw [List.length_take,List.length_drop];exact Nat.min_eq_left (Nat.le_sub_of_add_le' H.l)
  rw [show s.take (h+n)=hdB 128 n++(s.drop h).take n from take_hdB H.t,enc,el,if_neg (c:=n=1∧(((s.drop h).take n).getD 0 0).toNat<128) fun z=>H.w ⟨rfl,z.1,getD_take z.1▸z.2⟩]
theorem head_b {s:L8}{h n}(e:rHead s=some (false,h,n)):h+n≤s.length∧s.take (h+n)=enc (.b ((s.drop h).take n)):=(rHead_inv e).b rfl
theorem Hd1.l {s:L8}{b:Bool}{h n:Nat}(H:Hd1 s b h n):b=true→0<h∧h+n≤s.length∧∀ts,encs ts=(s.drop h).take n→s.take (h+n)=enc (.l ts):=by
 cases H with
 |z=>exact fun z=>Bool.noConfusion z
 |i H=>
  intro e;subst e
  refine ⟨H.p,H.l,fun ts et=>?_⟩
  have el:((s.drop h).take n).length=n:=by rw [List.length_take,List.length_drop];exact Nat.min_eq_left (Nat.le_sub_of_add_le' H.l)
  rw [take_hdB H.t,enc,et,el];rfl
theorem head_l {s:L8}{h n}(e:rHead s=some (true,h,n)):0<h∧h+n≤s.length∧∀ts,encs ts=(s.drop h).take n→s.take (h+n)=enc (.l ts):=(rHead_inv e).l rfl
theorem head_only {s:L8}(hs:s.length≤100000){h n}(e:rHead s=some (true,h,n))(t:It)(ht:enc t <+: s):∃ts',t=.l ts'∧encs ts'=(s.drop h).take n:=by
 cases enc_head ht hs with
 |mk h' n' e' q=>
  cases t with
  |b l=>exact s3 (P:=fun b ω ω=>b=false→_) (e.symm.trans e') (fun z=>Bool.noConfusion z) rfl
  |l ts=>exact ⟨ts,rfl,s3 (P:=fun ω h n=>encs ts=(s.drop h).take n) (e'.symm.trans e) q.symm⟩
theorem encs_ne {t:It}{r:List It}(h:[]=encs (t::r)):False:=by
 have l:=congrArg List.length h
 rw [encs,List.length_append] at l
 exact absurd (enc_pos t) (by rw [(Nat.add_eq_zero_iff.mp l.symm).1];exact Nat.lt_irrefl 0)
structure SameI (t:It)(b:Bool)(l:L8):Prop where
 b:isL t=b
 o:bodyOf t=l
 l:l.length≤100000
theorem SameI.of {t t':It}{s:L8}(hs:s.length≤100000)(h:enc t <+: s)(h':enc t' <+: s):SameI t (isL t') (bodyOf t'):=by
 cases enc_head h hs with
 |mk a n e q=>
  cases enc_head h' hs with
  |mk a' n' e' q'=>
   refine q'▸s3 (P:=fun b a n=>SameI t b ((s.drop a).take n)) (e.symm.trans e') ⟨rfl,q.symm,?_⟩
   rw [List.length_take,List.length_drop];exact Nat.le_trans (Nat.min_le_right ..) (Nat.le_trans (Nat.sub_le ..) hs)
theorem enc_inj (t:It):∀(t':It) (s:L8),s.length≤100000→enc t <+: s→enc t' <+: s→t=t':=by
 refine It.rec (motive_1:=fun t=>∀(t':It) (s:L8),s.length≤100000→enc t <+: s→enc t' <+: s→t=t') (motive_2:=fun ts=>∀ts':List It,encs ts=encs ts'→(encs ts').length≤100000→ts=ts') ?_ ?_ ?_ ?_ t
 ·intro l t' s hs h h'
  have S:=SameI.of hs h h'
  cases t' with
  |b l'=>exact congrArg It.b S.o
  |l ts=>exact Bool.noConfusion S.b
 ·intro ts ih t' s hs h h'
  have S:=SameI.of hs h h'
  cases t' with
  |b l'=>exact Bool.noConfusion S.b
  |l ts'=>exact congrArg It.l (ih ts' S.o S.l)
 ·intro ts' h _
  cases ts' with
  |nil=>rfl
  |cons t r=>exact (encs_ne h).elim
 ·intro t r iht ihr ts' h hl
  cases ts' with
  |nil=>exact (encs_ne h.symm).elim
  |cons t' r'=>
   have e:t=t':=iht t' (encs (t'::r')) hl ⟨encs r,by rw [←h,encs]⟩ ⟨encs r',by rw [encs]⟩
   subst e
   rw [encs,encs] at h
   rw [encs,List.length_append] at hl
   rw [ihr r' (List.append_cancel_left h) (Nat.le_trans (Nat.le_add_left ..) hl)]
theorem encs_more {ts ts':List It}{q:L8}(h:encs ts'=encs ts++q)(hl:(encs ts').length≤100000):∃us,ts'=ts++us∧encs us=q:=by
 induction ts generalizing ts' with
 |nil=>exact ⟨ts',rfl,by simpa [encs] using h⟩
 |cons t r ih=>
  cases ts' with
  |nil=>exact (encs_ne (r:=r) (t:=t) (List.append_eq_nil_iff.mp (h.symm.trans (by rw [encs]))).1.symm).elim
  |cons t' r'=>
   have e:t=t':=enc_inj t t' (encs (t'::r')) hl ⟨encs r++q,by rw [h,encs,List.append_assoc]⟩ ⟨encs r',by rw [encs]⟩
   subst e
   rw [encs,encs,List.append_assoc] at h
   rw [encs,List.length_append] at hl
   obtain ⟨us,rfl,e⟩:=ih (List.append_cancel_left h) (by lia)
   exact ⟨us,rfl,e⟩
end Internal
end
section
namespace Internal
theorem zo {n f:Nat}{d:Fd}{args:List U}{K:KS}{Q:ZQ}{E:ZE}(hf:Nat.beq f 30=false)(hd:code.f f=some d)(z:zBody (zch n) d args K Q E):zF code (n+1) f args K Q E:=by
 rw [zF_succ,hf,hd];exact .mk z
theorem zfor {step:U→List Sl→KS→ZS→Prop}{Q:ZS}(I:List U→List Sl→KS→Prop)(he:∀ρ K,I [] ρ K→Q .next ρ K)
  (hs:∀x r ρ K k,I (x::r) ρ K→(∀ρ' K',I r ρ' K'→k .next ρ' K')→(∀v ρ' K',Q (.ret v) ρ' K'→k (.ret v) ρ' K')→step x ρ K k):∀{items ρ K},I items ρ K→zFor step items ρ K Q
 | [],ρ,K,h=>he ρ K h
 |x::r,ρ,K,h=>hs x r ρ K _ h (fun ω ω k=>zfor I he hs k) fun ω ω ω k=>k
theorem zcl {α:Type}{step:U→List U→KS→(List U→KS→Prop)→Prop}{Q:List U→KS→Prop}(f:α→U)(g:α→U){K:KS}:∀(l:List α),(∀x∈l,∀acc k,k (acc++[g x]) K→step (f x) acc K k)→∀{acc},Q (acc++l.map g) K→zCL step (l.map f) acc K Q
 | [],_,_,q=>by rw [List.map_nil,List.append_nil] at q;exact q
 |x::r,hs,acc,q=>hs x (.head _) acc _ (zcl f g r (fun y m=>hs y (.tail _ m)) (by rw [List.append_assoc];exact q))
theorem l24 {n:Nat}(h:n≤100000):n≤16777216:=Nat.le_trans h (by decide)
theorem l6 {n:Nat}(h:n≤100000):n≤1000000:=Nat.le_trans h (by decide)
theorem lt256 {x k:Nat}(h:x<256^k):(x:Int)<(256:Int)^k:=Int.natCast_pow 256 k▸Int.ofNat_lt.mpr h
theorem number_ok {n x:Nat}{K Q E}(hx:x<2^256)(q:Q (.bytes (fig x)) K):zF code (n+1) 1 [.int x] K Q E:=by
 have ⟨h1,h2⟩:=num_octets x
 refine zo rfl rfl (zif (fun h=>absurd h (Int.not_lt.mpr (Int.natCast_nonneg x))) fun ω=>?_)
 have hb:bitlen (x:Int)≤256:=by
  by_cases z:x=0
  ·subst z;decide
  ·rw [show bitlen (x:Int)=x.log2+1 by unfold bitlen;rw [if_neg (by lia)];rfl]
   exact (Nat.log2_lt z).mpr hx
 have key:∀k:Int,k=((bitlen (x:Int)+7)/8:Nat)→zToB false x k fun u=>Q u K:=by
  rintro _ rfl
  exact ⟨⟨Int.natCast_nonneg _,by lia,Int.natCast_nonneg _,by rw [Int.toNat_natCast];exact lt256 h1⟩,(show Q (.bytes (beN ((bitlen (x:Int)+7)/8) x)) K from h2.symm▸q)⟩
 exact key _ (by lia)
theorem getU_imp {n:String}{k k':U→Prop}(f:∀u,k u→k' u):∀{ks:List String} {us:List U},getU n ks us k→getU n ks us k'
 |x::r,u::us,h=>by
  have h:cond (n==x) (k u) (getU n r us k):=h
  show cond (n==x) (k' u) (getU n r us k')
  cases z:n==x with
  |true=>rw [z] at h;exact f u h
  |false=>rw [z] at h;exact getU_imp f (ks:=r) h
 | [],[],h | [],_::_,h |_::_,[],h=>h.elim
theorem zat {n:String}{C:Nat}{us:List U}{Q:U→Prop}(u:U)(h:getU n (namesOf C) us fun w=>w=u)(q:Q u):zAtt n (.obj C us) Q:=by
 unfold zAtt;exact .mk <|getU_imp (fun ω e=>e▸q) h
theorem subN {a b:Int}{x:Nat}(g y:Nat){Q:U→Prop}(ha:a=x)(hb:b=y)(h:x=g+y)(q:Q (.int g)):zSubI a b Q:=by
 unfold zSubI
 rw [ha,hb,h,Int.natCast_add,Int.add_sub_cancel];exact .mk q
theorem powN {a b:Int}(x y:Nat){Q:U→Prop}(ha:a=x)(hb:b=y)(hx:x<18446744073709551616)(hy:y≤1000000)(q:Q (.int (x^y:Nat))):zPowI a b Q:=by
 unfold zPowI
 subst ha hb
 exact .mk ⟨⟨Int.natCast_nonneg y,Int.ofNat_le.mpr hy,hx⟩,Int.natCast_pow x y▸q⟩
theorem shlN {a b:Int}(x y:Nat){Q:U→Prop}(ha:a=x)(hb:b=y)(hx:x<18446744073709551616)(hy:y≤1000000)(q:Q (.int (x*2^y:Nat))):zShlI a b Q:=by
 unfold zShlI
 subst ha hb
 refine .mk ⟨⟨Int.natCast_nonneg y,Int.ofNat_le.mpr hy,hx⟩,?_⟩
 rw [Int.natCast_mul,Int.natCast_pow] at q;exact q
theorem slB {l:L8}{i j:Int}(a b:Nat){Q:U→Prop}(hl:l.length≤100000)(hi:i=a)(hj:j=b)(q:Q (.bytes ((l.drop a).take (b-a)))):zSlc (some i) (some j) (.bytes l) Q:=by
 unfold zSlc
 exact .mk ⟨l24 hl,cut_b l hi hj▸q⟩
theorem slD {l:L8}{i:Int}(a:Nat){Q:U→Prop}(hl:l.length≤100000)(hi:i=a)(q:Q (.bytes (l.drop a))):zSlc (some i) none (.bytes l) Q:=by
 unfold zSlc
 exact .mk ⟨l24 hl,cut_d l hi▸q⟩
theorem slT {l:L8}{i:Int}(a:Nat){Q:U→Prop}(hl:l.length≤100000)(hi:i=a)(q:Q (.bytes (l.take a))):zSlc none (some i) (.bytes l) Q:=by
 unfold zSlc
 exact .mk ⟨l24 hl,cut_t l hi▸q⟩
theorem octets_number_ok {n:Nat}{l:L8}{K Q E}(hl:l.length≤100000)(h1:l.take 1=[0]→E 1 K)(h2:l.take 1≠[0]→Q (.int (valB l)) K):zF code (n+1) 2 [.bytes l] K Q E:=
 zo rfl rfl (slT 1 hl rfl (zif h1 fun h=>⟨l6 hl,h2 h⟩))
theorem byt1 {x:Nat}{Q:U→Prop}(hx:x<256)(q:Q (.bytes [UInt8.ofNat x])):zByt (.list [.int x]) Q:=by
 unfold zByt
 exact .mk ⟨[(x:Int)],rfl,fun n m=>by rw [List.mem_singleton.mp m];lia,(by decide:1≤1000000),q⟩
theorem head_ok {n low m:Nat}{K Q E}(hl:low≤192)(hm:m≤100000)(q:Q (.bytes (hdB low m)) K):zF code (n+2) 3 [.int low,.int m] K Q E:=by
 refine zo rfl rfl (zif (fun h=>?_) fun h=>?_)
 ·have h:m<56:=by lia
  exact byt1 (x:=low+m) (by lia) (show Q (.bytes _) K by rw [hdB,if_pos h] at q;exact q)
 ·have h:¬m<56:=by lia
  have hf:=fig_len (n:=m) (k:=3) (Nat.lt_of_le_of_lt hm (by decide))
  rw [hdB,if_neg h] at q
  refine number_ok (Nat.lt_of_le_of_lt hm (by decide)) ⟨by lia,byt1 (x:=low+55+(fig m).length) (by lia) ⟨?_,q⟩⟩
  show 1+(fig m).length≤16777216
  lia
end Internal
end
section
namespace Internal
theorem zforL {α P:Type}{f:α→U}{step:U→List Sl→KS→ZS→Prop}{Q:ZS}{K:KS}(S:List α→P→List Sl)(l:List α)(he:∀p,Q .next (S l p) K)
  (hs:∀dn x td p k,l=dn++x::td→(∀p',k .next (S (dn++[x]) p') K)→(∀v ρ,Q (.ret v) ρ K→k (.ret v) ρ K)→step (f x) (S dn p) K k):∀p,zFor step (l.map f) (S [] p) K Q:=by
 have go:∀td dn p,l=dn++td→zFor step (td.map f) (S dn p) K Q:=by
  intro td
  induction td with
  |nil=>intro dn p e;rw [List.append_nil] at e;exact e▸he p
  |cons x td ih=>intro dn p e;exact hs dn x td p _ e (fun p'=>ih _ p' (by rw [e,List.append_assoc];rfl)) fun ω ω k=>k
 exact fun p=>go l [] p rfl
theorem zforI {P:Type}{step:U→List Sl→KS→ZS→Prop}{Q:ZS}{K:KS}(S:List It→P→List Sl)(l:List It)(he:∀p,Q .next (S l p) K)
  (hs:∀dn x td p k,l=dn++x::td→(∀p',k .next (S (dn++[x]) p') K)→(∀v ρ,Q (.ret v) ρ K→k (.ret v) ρ K)→step (itU x) (S dn p) K k)(p:P):zFor step (itUs l) (S [] p) K Q:=itUs_map l▸zforL S l he hs p
theorem itUs_len (ts:List It):(itUs ts).length=ts.length:=by rw [itUs_map,List.length_map]
theorem enc_l {ts:List It}(h:(enc (.l ts)).length≤100000):(encs ts).length≤100000:=by rw [enc,List.length_append] at h;exact Nat.le_trans (Nat.le_add_left _ _) h
theorem enc_b {l:L8}(h:(enc (.b l)).length≤100000):l.length≤100000:=by
 rw [enc] at h;split at h
 ·exact h
 ·rw [List.length_append] at h;exact Nat.le_trans (Nat.le_add_left _ _) h
theorem enc_mem {dn td:List It}{x:It}(h:(encs (dn++x::td)).length≤100000):(encs dn).length+(enc x).length≤100000:=by
 rw [encs_app,encs,List.length_append,List.length_append] at h;lia
theorem dep_mem (dn td:List It)(x:It):dep x+1≤deps (dn++x::td):=deps_mem (List.mem_append_right _ (.head _))
theorem fuel {n N:Nat}(k:Nat)(h:n+k≤N):∃m,N=m+k∧n≤m:=⟨N-k,(Nat.sub_add_cancel (Nat.le_trans (Nat.le_add_left _ _) h)).symm,Nat.le_sub_of_add_le h⟩
theorem It.ind {P:It→Prop}(hb:∀l,P (.b l))(hl:∀ts,(∀t∈ts,P t)→P (.l ts)):∀t,P t:=
 It.rec (motive_1:=P) (motive_2:=fun ts=>∀t∈ts,P t) hb hl (fun ω m=>nomatch m) fun t r h k x m=>(List.mem_cons.mp m).elim (fun e=>e▸h) (k x)
theorem enc_at:∀(t:It) {N d:Nat} {K Q E},dep t+3≤N→d+dep t≤60→(enc t).length≤100000→Q (.bytes (enc t)) K→zF code N 4 [itU t,.int d] K Q E:=by
 refine It.ind (fun l N d K Q E hN hd hl q=>?_) (fun ts ih N d K Q E hN hd hl q=>?_)
 ·obtain ⟨m,rfl,_⟩:=fuel 3 hN
  have hb:=enc_b hl
  have fin:¬(l.length=1∧(l.getD 0 0).toNat<128)→zF code (m+2) 3 [.int 128,.int l.length] K (fun u K=>zBin .add u (.bytes l) fun u=>Q u K) E:=fun z=>by
   rw [enc,if_neg z] at q hl
   exact head_ok (low:=128) (by decide) hb ⟨by rw [List.length_append] at hl;exact l24 hl,q⟩
  refine zo rfl rfl (zif (fun h=>absurd h (by lia)) fun ω=>⟨l24 hb,zif (fun h=>⟨⟨by decide,by lia,l24 hb⟩,zif (fun h2=>?_) fun h2=>⟨l24 hb,fin fun z=>h2 (Int.ofNat_lt.mpr z.2)⟩⟩) fun h=>⟨l24 hb,fin fun z=>h (congrArg Int.ofNat z.1)⟩⟩)
  rw [enc,if_pos ⟨Int.ofNat.inj h,Int.ofNat_lt.mp h2⟩] at q
  exact q
 ·obtain ⟨m,rfl,hm⟩:=fuel 3 hN
  have el:=enc_l hl
  have hlen:=Nat.le_trans (encs_len ts) el
  refine zo rfl rfl (zif (fun h=>absurd h (by lia)) fun ω=>⟨itUs_len ts▸l6 hlen,?_⟩)
  refine zforI (P:=Sl) (fun dn p=>[.val (itU (.l ts)),.val (.int d),.val (.bytes (encs dn)),p]) ts (fun p=>?_) (fun dn x td p k e kn ω=>?_) .unb
  ·rw [enc] at q hl
   exact ⟨l24 el,head_ok (low:=192) (by decide) el ⟨by rw [List.length_append] at hl;exact l24 hl,q⟩⟩
  ·rw [e] at el
   have hd':=dep_mem dn td x
   rw [←e] at hd'
   have hx:=enc_mem el
   refine ih x (e▸List.mem_append_right _ (.head _)) (d:=d+1) (N:=m+2) (Nat.le_trans (Nat.add_le_add_right hd' 2) (Nat.add_le_add_right hm 2)) (by have:dep (.l ts)=deps ts:=rfl;lia) (Nat.le_trans (Nat.le_add_left _ _) hx) ⟨l24 hx,?_⟩
   have:=kn (.val (itU x))
   rw [encs_app,encs,encs,List.append_nil] at this
   exact this
theorem encoded_ok {u:U}{t:It}{N:Nat}{K Q E}(hu:u=itU t)(hN:dep t+4≤N)(hd:dep t≤60)(hl:(enc t).length≤100000)(q:Q (.bytes (enc t)) K):zF code N 5 [u] K Q E:=by
 subst hu
 obtain ⟨m,rfl,hm⟩:=fuel 1 hN
 exact zo rfl rfl (enc_at t (d:=0) hm (by rw [Nat.zero_add];exact hd) hl q)
end Internal
end
section
namespace Internal
theorem zwhl {α:Type}{test:List Sl→KS→(Bool→KS→Prop)→Prop}{body:List Sl→KS→ZS→Prop}{Q:ZS}{K:KS}(S:α→List Sl)(J:α→Nat→Prop)
  (hs:∀a m k,J a m→(∀a' m',m' < m→J a' m'→k .next (S a') K)→(∀v ρ,Q (.ret v) ρ K→k (.ret v) ρ K)→test (S a) K fun b K'=>cond b (body (S a) K' k) (Q .next (S a) K')){a:α}{m:Nat}(h:J a m):∃n,zWhl test body n (S a) K Q:=by
 have go:∀n {a m},m<n→J a m→zWhl test body n (S a) K Q:=by
  intro n
  induction n with
  |zero=>exact fun h ω=>absurd h (Nat.not_lt_zero _)
  |succ n ih=>exact fun {a m} l h=>hs a m _ h (fun a' m' l' h'=>ih (Nat.lt_of_lt_of_le l' (Nat.le_of_lt_succ l)) h') fun ω ω q=>q
 exact ⟨m+1,go _ (Nat.lt_succ_self m) h⟩
noncomputable def natU (gs:List Nat):List U:=gs.map fun g:Nat=>.int (g:Int)
theorem natU_snoc {gs:List Nat}{g:Nat}:natU (gs++[g])=natU gs++[.int g]:=List.map_append
theorem natU_len {gs:List Nat}:(natU gs).length=gs.length:=List.length_map _
theorem bytN {gs:List Nat}{Q:U→Prop}(h:∀g∈gs,g<256)(hl:gs.length≤100000)(q:Q (.bytes (gs.map UInt8.ofNat))):zByt (.list (natU gs)) Q:=by
 unfold zByt
 refine .mk ⟨gs.map fun g:Nat=>(g:Int),(List.map_map (l:=gs) (f:=fun g:Nat=>(g:Int)) (g:=U.int)).symm,fun n m=>?_,by rw [List.length_map];exact l6 hl,by rw [List.map_map];exact q⟩
 obtain ⟨g,m',rfl⟩:=List.mem_map.mp m
 exact ⟨Int.natCast_nonneg g,Int.ofNat_lt.mpr (h g m')⟩
theorem lt_snoc {gs:List Nat}{y:Nat}(h:∀g∈gs,g<256):∀g∈gs++[y % 256],g<256:=fun g m=>(List.mem_append.mp m).elim (h g) fun m=>List.mem_singleton.mp m▸Nat.mod_lt _ (by decide)
theorem fig_step {A:L8}{gs:List Nat}{y:Nat}:A++[UInt8.ofNat (y % 256)]++gs.reverse.map UInt8.ofNat=A++(gs++[y % 256]).reverse.map UInt8.ofNat:=by
 rw [List.append_assoc,List.reverse_append];rfl
theorem fig_end {n:Nat}{gs:List Nat}{j:Int}{x:Nat}{K:KS}{Q:ZQ}{E:ZE}{w:L8}(h1:∀g∈gs,g<256)(h2:gs.length≤100)(h4:gs.reverse.map UInt8.ofNat=w)(q:Q (.bytes w) K) :
  zSs (zch n) (c__law_figures.body.drop 2) [.val (.int x),.val (.int j),.grow (natU gs)] K (retZ Q) (errZ E):=by
 refine ⟨by rw [natU_len];exact Nat.le_trans h2 (by decide),?_⟩
 have e:(natU gs).reverse=natU gs.reverse:=List.map_reverse.symm
 rw [e]
 exact bytN (fun g m=>h1 g (List.mem_reverse.mp m)) (by rw [List.length_reverse];exact Nat.le_trans h2 (by decide)) (h4▸q)
theorem figures_m {n x:Nat}{K Q E}(hx:x<2^256)(q:Q (.bytes (fig x)) K):zF code (n+1) 37 [.int x,.int (-1)] K Q E:=by
 have hl:(fig x).length≤32:=fig_len hx
 refine zo rfl rfl (zwhl (fun a:Nat×List Nat=>[.val (.int a.1),.val (.int (-1)),.grow (natU a.2)]) (fun a m=>(m=a.1∧(∀g∈a.2,g<256))∧fig x=fig a.1++a.2.reverse.map UInt8.ofNat) (a:=(x,[])) (m:=x) (fun a m k h kn ω=>?_) ⟨⟨rfl,nofun⟩,(List.append_nil _).symm⟩)
 obtain ⟨y,gs⟩:=a
 obtain ⟨⟨rfl,hg⟩,h⟩:=h
 have hlen:gs.length≤32:=by rw [h,List.length_append,List.length_map,List.length_reverse] at hl;exact Nat.le_trans (Nat.le_add_left _ _) hl
 refine zt (by decide) (zif (fun z=>⟨by rw [natU_len];exact Nat.le_trans hlen (by decide),?_⟩) fun z=>?_)
 ·have z:m≠0:=by lia
  have:=kn (m/256,gs++[m % 256]) (m/256) (Nat.div_lt_self (Nat.pos_of_ne_zero z) (by decide)) ⟨⟨rfl,lt_snoc hg⟩,(h.trans (fig_s z▸rfl)).trans fig_step⟩
  rw [natU_snoc] at this;exact this
 ·have z:m=0:=by lia
  subst z
  rw [fig_0,List.nil_append] at h
  exact fig_end hg (Nat.le_trans hlen (by decide)) h.symm q
theorem figures_k {n x c:Nat}{K Q E}(hc:c≤64)(q:Q (.bytes (beN c x)) K):zF code (n+1) 37 [.int x,.int c] K Q E:=by
 refine zo rfl rfl (zwhl (fun a:Nat×List Nat=>[.val (.int a.1),.val (.int c),.grow (natU a.2)]) (fun a m=>(m+a.2.length=c∧(∀g∈a.2,g<256))∧beN c x=beN m a.1++a.2.reverse.map UInt8.ofNat) (a:=(x,[])) (m:=c) (fun a m k h kn ω=>?_) ⟨⟨rfl,nofun⟩,(List.append_nil _).symm⟩)
 obtain ⟨y,gs⟩:=a
 obtain ⟨⟨hm,hg⟩,h⟩:=h
 have hlen:gs.length≤64:=by lia
 refine zf (Int.not_lt.mpr (Int.natCast_nonneg c)) ⟨by rw [natU_len];exact Nat.le_trans hlen (by decide),zif (fun z=>⟨by rw [natU_len];exact Nat.le_trans hlen (by decide),?_⟩) fun z=>?_⟩<;>rw [natU_len] at z
 ·obtain ⟨m,rfl⟩:∃j,m=j+1:=⟨m-1,by lia⟩
  have:=kn (y/256,gs++[y % 256]) m (Nat.lt_succ_self m) ⟨⟨by rw [List.length_append];show m+(gs.length+1)=c;lia,lt_snoc hg⟩,h.trans fig_step⟩
  rw [natU_snoc] at this;exact this
 ·obtain rfl:m=0:=by lia
  exact fig_end hg (Nat.le_trans hlen (by decide)) h.symm q
end Internal
end
section
namespace Internal
theorem laid_tail {n low:Nat}{v:U}{body:L8}{K Q E}(hl:low≤192)(hb:body.length≤1000)(q:Q (.bytes (hdB low body.length++body)) K) :
  zSs (zch (n+1)) (c__law_laid.body.drop 3) [.val v,.val (.int low),.val (.bytes body),.unb] K (retZ Q) (errZ E):=by
 have b2:body.length≤100000:=Nat.le_trans hb (by decide)
 refine ⟨l24 b2,zif (fun h=>?_) fun h=>?_⟩
 ·have h:body.length<56:=Int.ofNat_lt.mp h
  rw [hdB,if_pos h] at q
  exact ⟨l24 b2,byt1 (x:=low+body.length) (by lia) ⟨by show 1+body.length≤16777216;lia,q⟩⟩
 ·have h:¬body.length<56:=fun z=>h (Int.ofNat_lt.mpr z)
  rw [hdB,if_neg h] at q
  have hf:(fig body.length).length≤2:=fig_len (Nat.lt_of_le_of_lt hb (by decide))
  refine ⟨l24 b2,figures_m (Nat.lt_of_le_of_lt hb (by decide)) ⟨by lia,byt1 (x:=low+55+(fig body.length).length) (by lia) ⟨?_,?_,q⟩⟩⟩
  ·show 1+(fig body.length).length≤16777216;lia
  ·show (fig body.length).length+1+body.length≤16777216;lia
theorem zclI {step:U→List U→KS→(List U→KS→Prop)→Prop}{Q:List U→KS→Prop}(g:It→U){K:KS}{ts:List It}(hs:∀x∈ts,∀acc k,k (acc++[g x]) K→step (itU x) acc K k)(q:Q (ts.map g) K):zCL step (itUs ts) [] K Q:=by
 rw [itUs_map]
 exact zcl itU g ts hs (by rw [List.nil_append];exact q)
theorem encs_flat (ts:List It):(ts.map enc).flatten=encs ts:=by
 induction ts with
 |nil=>rfl
 |cons t r ih=>rw [encs,←ih];rfl
theorem joinB {ls:List L8}{Q:U→Prop}(h:ls.length≤1000)(k:ls.flatten.length≤16777216)(q:Q (.bytes ls.flatten)):zJoin (.list (ls.map U.bytes)) Q:=by
 unfold zJoin;exact .mk ⟨ls,rfl,h,k,q⟩
theorem encs_mem {t:It}:∀{ts:List It},t∈ts→(enc t).length≤(encs ts).length
 |_::_,.head _=>by rw [encs,List.length_append];exact Nat.le_add_right _ _
 |_::_,.tail _ m=>by rw [encs,List.length_append];exact Nat.le_trans (encs_mem m) (Nat.le_add_left _ _)
theorem laid_ok:∀(t:It) {N:Nat} {K Q E},dep t+2≤N→(enc t).length≤1000→Q (.bytes (enc t)) K→zF code N 38 [itU t] K Q E:=by
 refine It.ind (fun l N K Q E hN hl q=>?_) (fun ts ih N K Q E hN hl q=>?_)
 ·obtain ⟨m,rfl,_⟩:=fuel 2 hN
  have hb:l.length≤1000:=by
   rw [enc] at hl;split at hl
   ·exact hl
   ·rw [List.length_append] at hl;exact Nat.le_trans (Nat.le_add_left _ _) hl
  have b2:l.length≤16777216:=Nat.le_trans hb (by decide)
  have fin:¬(l.length=1∧(l.getD 0 0).toNat<128)→zSs (zch (m+1)) (c__law_laid.body.drop 3) [.val (.bytes l),.val (.int 128),.val (.bytes l),.unb] K (retZ Q) (errZ E):=fun z=>by
   rw [enc,if_neg z] at q
   exact laid_tail (low:=128) (by decide) hb q
  refine zo rfl rfl (zf (by decide) (zt rfl ⟨b2,zif (fun h=>⟨⟨by decide,by lia,b2⟩,zif (fun h2=>?_) fun h2=>fin fun z=>h2 (Int.ofNat_lt.mpr z.2)⟩) fun h=>fin fun z=>h (congrArg Int.ofNat z.1)⟩))
  rw [enc,if_pos ⟨Int.ofNat.inj h,Int.ofNat_lt.mp h2⟩] at q
  exact q
 ·obtain ⟨m,rfl,hm⟩:=fuel 2 hN
  rw [enc] at q hl
  have el:(encs ts).length≤1000:=by rw [List.length_append] at hl;exact Nat.le_trans (Nat.le_add_left _ _) hl
  have hlen:=Nat.le_trans (encs_len ts) el
  refine zo rfl rfl (zt rfl ⟨by rw [itUs_len];exact Nat.le_trans hlen (by decide),zclI (fun t=>.bytes (enc t)) (fun x mx acc k q=>ih x mx (N:=m+1) ?_ (Nat.le_trans (encs_mem mx) el) q) ?_⟩)
  ·exact Nat.le_trans (Nat.add_le_add_right (deps_mem mx) 1) (Nat.add_le_add_right hm 1)
  ·rw [show ts.map (fun t=>U.bytes (enc t))=(ts.map enc).map U.bytes from List.map_map.symm]
   refine joinB (by rw [List.length_map];exact hlen) (by rw [encs_flat];exact Nat.le_trans el (by decide)) ?_
   rw [encs_flat]
   exact zf (by decide) (laid_tail (low:=192) (by decide) el q)
theorem laid_it {u:U}{t:It}{N:Nat}{K Q E}(hu:u=itU t)(hN:dep t+2≤N)(hl:(enc t).length≤1000)(q:Q (.bytes (enc t)) K):zF code N 38 [u] K Q E:=hu▸laid_ok t hN hl q
end Internal
end
section
namespace Internal
theorem read_size_ok {n p m:Nat}{o:L8}{K Q E}(ho:o.length≤100000)(hm:m≤100)
  (he:(o.length<p+m∨((o.drop p).take m).take 1=[0]∨valB ((o.drop p).take m)≤55)→E 1 K)
  (hq:p+m≤o.length→((o.drop p).take m).take 1≠[0]→55<valB ((o.drop p).take m)→Q (.int (valB ((o.drop p).take m))) K):zF code (n+2) 6 [.bytes o,.int p,.int m] K Q E:=by
 refine zo rfl rfl ⟨l24 ho,zif (fun h=>he (.inl (Int.ofNat_lt.mp h))) fun h=>?_⟩
 have h:p+m≤o.length:=Nat.le_of_not_lt fun z=>h (Int.ofNat_lt.mpr z)
 refine slB p (p+m) ho rfl rfl ?_
 rw [Nat.add_sub_cancel_left]
 exact octets_number_ok (Nat.le_trans (List.length_take_le _ _) (Nat.le_trans hm (by decide))) (fun k=>he (.inr (.inl k))) fun k=>zif (fun h'=>he (.inr (.inr (Int.ofNat_le.mp h')))) fun h'=>hq h k (Nat.lt_of_not_le fun z=>h' (Int.ofNat_le.mpr z))
theorem drop_get {o:L8}{p:Nat}(h:p<o.length):o.drop p=o.getD p 0::o.drop (p+1):=by
 rw [List.drop_eq_getElem_cons h,List.getD_eq_getElem?_getD,List.getElem?_eq_getElem h];rfl
theorem drop_getD {o:L8}{p h:Nat}:(o.drop p).getD h 0=o.getD (p+h) 0:=by
 rw [List.getD_eq_getElem?_getD,List.getD_eq_getElem?_getD,List.getElem?_drop]
theorem head_end {n p h m:Nat}{b:Bool}{o:L8}{f x:Sl}{K Q E}(ho:o.length≤100000)(h1:1≤h)
  (he:(o.length<p+h+m∨b=false∧m=1∧h=1∧(o.getD (p+h) 0).toNat<128)→E 1 K)
  (hq:p+h+m≤o.length→¬(b=false∧m=1∧h=1∧(o.getD (p+h) 0).toNat<128)→Q (.tup [.bool b,.int (p+h:Nat),.int (p+h+m:Nat)]) K) :
  zSs (zch n) (c_read_head.body.drop 6) [.val (.bytes o),.val (.int p),f,.val (.bool b),.val (.int m),.val (.int (p+h:Nat)),x] K (retZ Q) (errZ E):=by
 refine ⟨l24 ho,zif (fun k=>he (.inl (Int.ofNat_lt.mp k))) fun k=>?_⟩
 have k:p+h+m≤o.length:=Nat.le_of_not_lt fun z=>k (Int.ofNat_lt.mpr z)
 cases b with
 |true=>exact hq k nofun
 |false=>exact zif (fun a1=>zif (fun a2=>⟨⟨Int.natCast_nonneg _,by lia,l24 ho⟩,zif (fun a3=>he (.inr ⟨rfl,Int.ofNat.inj a1,by lia,Int.ofNat_lt.mp a3⟩)) fun a3=>hq k fun z=>a3 (Int.ofNat_lt.mpr z.2.2.2)⟩) fun a2=>hq k fun z=>a2 (by rw [z.2.2.1];rfl)) fun a1=>hq k fun z=>a1 (congrArg Int.ofNat z.2.1)
theorem lt_iff {L p g o:Nat}(hr:L+p=o):o<p+g↔L<g:=by subst hr;rw [Nat.add_comm L];exact Nat.add_lt_add_iff_left
theorem as4 {p g w:Nat}:p+(1+g)+w=p+1+(g+w):=by rw [←Nat.add_assoc p,Nat.add_assoc (p+1)]
theorem lt_sub {G k F B c:Nat}(hg:F=G+k)(hF:F<B)(hB:B=c+1+k):G≤c:=by subst hg hB;exact Nat.le_of_lt_succ (Nat.lt_of_add_lt_add_right hF)
theorem sub55 {G:Nat}(k:Nat)(h:k≤G):∃g,G=g+k:=⟨G-k,(Nat.sub_add_cancel h).symm⟩
theorem head_mid {n p G:Nat}{f:Sl}{b:Bool}{o:L8}{K Q E}(ho:o.length≤100000)(hp:p<o.length)(hG:G≤127)(e:rHead (o.drop p)=hd_ b G (o.drop (p+1)))(he:rHead (o.drop p)=none→E 1 K)
  (hq:∀b h n,rHead (o.drop p)=some (b,h,n)→Q (.tup [.bool b,.int (p+h:Nat),.int (p+h+n:Nat)]) K) :
  zSs (zch (n+2)) (c_read_head.body.drop 5) [.val (.bytes o),.val (.int p),f,.val (.bool b),.val (.int G),.val (.int (p+1:Nat)),.unb] K (retZ Q) (errZ E):=by
 have hr:(o.drop (p+1)).length+(p+1)=o.length:=by rw [List.length_drop];exact Nat.sub_add_cancel hp
 unfold hd_ at e
 generalize hL:(o.drop (p+1)).length=L at e hr
 refine zif (fun h2=>?_) fun h2=>?_
 ·have h2:55<G:=Int.ofNat_lt.mp h2
  rw [if_neg (Nat.not_le_of_gt h2)] at e
  obtain ⟨g,rfl⟩:=sub55 55 (Nat.le_of_lt h2)
  rw [Nat.add_sub_cancel] at e
  refine subN g 55 rfl rfl rfl ?_
  have hg2:g≤100:=Nat.le_trans (Nat.le_of_add_le_add_right (c:=72) hG) (by decide)
  generalize hw:valB ((o.drop (p+1)).take g)=w at e
  refine read_size_ok ho hg2 (fun z=>he (e.trans ?_)) fun y y1 y2=>?_
  ·by_cases w:g>L
   ·exact if_pos w
   ·rw [if_neg w]
    by_cases w1:((o.drop (p+1)).take g).take 1=[0]
    ·exact if_pos w1
    ·rw [if_neg w1]
     exact if_pos (z.elim (fun z=>absurd ((lt_iff hr).mp z) w) fun z=>z.elim (fun z=>absurd z w1) fun z=>hw▸z)
  ·rw [hw] at y2⊢
   rw [if_neg fun c=>Nat.not_lt_of_le y ((lt_iff hr).mpr c),if_neg y1,if_neg (Nat.not_le_of_gt y2)] at e
   have ea:p+1+g=p+(1+g):=Nat.add_assoc ..
   refine (ea▸head_end (h:=1+g) ho (Nat.le_add_right _ _) (fun z=>he (e.trans (if_pos ?_))) fun k z=>hq b _ _ (e.trans (if_neg ?_)) :)
   ·exact z.elim (fun z=>(lt_iff hr).mp (as4▸z)) fun z=>absurd (z.2.1▸y2) (by decide)
   ·exact fun c=>Nat.not_lt_of_le k (as4▸(lt_iff hr).mpr c)
 ·have h2:G≤55:=Nat.le_of_not_lt fun z=>h2 (Int.ofNat_lt.mpr z)
  rw [if_pos h2,drop_getD,Nat.add_zero] at e
  refine head_end (h:=1) ho (Nat.le_refl _) (fun z=>he (e.trans ?_)) fun k z=>hq b 1 _ (e.trans ?_)
  ·by_cases w:G>L
   ·exact if_pos w
   ·rw [if_neg w];exact if_pos (z.elim (fun z=>absurd ((lt_iff hr).mp z) w) fun z=>⟨z.1,z.2.1,z.2.2.2⟩)
  ·rw [if_neg fun c=>Nat.not_lt_of_le k ((lt_iff hr).mpr c),if_neg fun y=>z ⟨y.1,y.2.1,rfl,y.2.2⟩]
theorem pre1 {ch:CZ}{s0 s2 s3 s4 s5 s6:Sl}{a:Int}{K:KS}{Q:List U→KS→Prop}{E:ZE}(h:Q [.int (a+1)] K):zXs ch [.bin .add (.loc 1) (.cst (.int 1))] [s0,.val (.int a),s2,s3,s4,s5,s6] K Q E:=h
theorem pre2 {ch:CZ}{s0 s1 s2 s3 s4 s5 s6:Sl}{u v:U}{K:KS}{k:List Sl→KS→Prop}{E:ZEs}(h:k [s0,s1,s2,s3,.val u,.val v,s6] K):zTg ch (.tup [.loc 4,.loc 5]) (.tup [u,v]) [s0,s1,s2,s3,s4,s5,s6] K k E:=h
theorem pre3 {k:List Sl→KS→Prop}{Q:ZS}{ρ:List Sl}{K:KS}(h:k ρ K):seqZ k Q .next ρ K:=h
theorem read_head_ok {n p:Nat}{o:L8}{K Q E}(ho:o.length≤100000)(he:rHead (o.drop p)=none→E 1 K)
  (hq:∀b h n,rHead (o.drop p)=some (b,h,n)→Q (.tup [.bool b,.int (p+h:Nat),.int (p+h+n:Nat)]) K):zF code (n+3) 7 [.bytes o,.int p] K Q E:=by
 refine zo rfl rfl ⟨l24 ho,zif (fun h=>he ?_) fun h=>?_⟩
 ·rw [List.drop_eq_nil_of_le (Int.ofNat_le.mp h)];rfl
 have hp:p<o.length:=Nat.lt_of_not_le fun z=>h (Int.ofNat_le.mpr z)
 have hd:=drop_get hp
 have hF:=(o.getD p 0).toNat_lt
 refine ⟨⟨Int.natCast_nonneg p,Int.ofNat_lt.mpr hp,l24 ho⟩,zif (fun h1=>?_) fun h1=>?_⟩
 ·exact hq false 0 1 (by rw [hd];exact if_pos (Int.ofNat_lt.mp h1))
 have h1:¬(o.getD p 0).toNat<128:=fun z=>h1 (Int.ofNat_lt.mpr z)
 have e:=rHead_c (r:=o.drop (p+1)) h1
 rw [←hd] at e
 refine zif (fun h2=>?_) fun h2=>?_
 ·have h2:192≤(o.getD p 0).toNat:=Int.ofNat_le.mp h2
  rw [decide_eq_true h2,if_pos h2] at e
  obtain ⟨G,hg⟩:=sub55 192 h2
  rw [hg,Nat.add_sub_cancel] at e
  exact subN (x:=(o.getD p 0).toNat) G 192 rfl rfl hg (pre1 (pre2 (pre3 (head_mid ho hp (Nat.le_trans (lt_sub (c:=63) hg hF rfl) (by decide)) e he hq))))
 ·have h2:¬192≤(o.getD p 0).toNat:=fun z=>h2 (Int.ofNat_le.mpr z)
  rw [decide_eq_false h2,if_neg h2] at e
  obtain ⟨G,hg⟩:=sub55 128 (Nat.le_of_not_lt h1)
  rw [hg,Nat.add_sub_cancel] at e
  exact subN (x:=(o.getD p 0).toNat) G 128 rfl rfl hg (pre1 (pre2 (pre3 (head_mid ho hp (lt_sub hg hF rfl) e he hq))))
end Internal
end
section
namespace Internal
theorem drop_le {o:L8}{s B:Nat}(ho:o.length≤B):(o.drop s).length≤B:=by rw [List.length_drop];exact Nat.le_trans (Nat.sub_le ..) ho
theorem take_le {o:L8}{n B:Nat}(ho:o.length≤B):(o.take n).length≤B:=by rw [List.length_take];exact Nat.le_trans (Nat.min_le_right ..) ho
theorem body_more {o:L8}{s n q:Nat}{ts ts':List It}(hq:s≤q)(hqe:q<s+n)(hle:s+n≤o.length)(ho:o.length≤100000)
  (hts:encs ts=(o.drop s).take (q-s))(hts':encs ts'=(o.drop s).take n):∃u us,ts'=ts++u::us∧enc u <+: o.drop q∧q+(enc u).length≤s+n:=by
 have hl:(encs ts').length≤100000:=hts'▸take_le (drop_le ho)
 obtain ⟨a,rfl⟩:=Nat.exists_eq_add_of_le hq
 have hqe:=Nat.lt_of_add_lt_add_left hqe
 obtain ⟨k,rfl⟩:=Nat.exists_eq_add_of_le (Nat.le_of_lt hqe)
 rw [Nat.add_sub_cancel_left] at hts
 rw [List.take_add,List.drop_drop,←hts] at hts'
 rw [←Nat.add_assoc] at hle⊢
 obtain ⟨us,rfl,hu⟩:=encs_more hts' hl
 have l:=congrArg List.length hu
 rw [List.length_take,List.length_drop,Nat.min_eq_left (Nat.le_sub_of_add_le' hle)] at l
 cases us with
 |nil=>exact absurd (l▸hqe:a<a+(encs []).length) (by rw [encs];exact Nat.lt_irrefl a)
 |cons u r=>
  rw [encs] at hu l
  rw [List.length_append] at l
  exact ⟨u,r,rfl,⟨encs r++(o.drop (s+a)).drop k,by rw [←List.append_assoc,hu,List.take_append_drop]⟩,Nat.add_le_add_left (l▸Nat.le_add_right ..) _⟩
theorem body_w {o:L8}{s n q:Nat}{ts:List It}{t:It}(hq:s≤q)(hqe:q<s+n)(hle:s+n≤o.length)(ho:o.length≤100000)
  (hts:encs ts=(o.drop s).take (q-s))(ht:enc t <+: o.drop q):q+(enc t).length≤s+n∨∀ts',encs ts'≠(o.drop s).take n:=by
 by_cases z:q+(enc t).length≤s+n
 ·exact .inl z
 ·refine .inr fun ts' hts'=>?_
  obtain ⟨u,us,rfl,hu,hu2⟩:=body_more hq hqe hle ho hts hts'
  exact z (enc_inj t u _ (drop_le ho) ht hu▸hu2)
theorem body_step {o:L8}{s q:Nat}{ts:List It}{t:It}(hq:s≤q)(hts:encs ts=(o.drop s).take (q-s))(ht:enc t <+: o.drop q):encs (ts++[t])=(o.drop s).take (q+(enc t).length-s):=by
 obtain ⟨a,rfl⟩:=Nat.exists_eq_add_of_le hq
 rw [Nat.add_sub_cancel_left] at hts
 rw [Nat.add_assoc,Nat.add_sub_cancel_left,List.take_add,List.drop_drop,←hts,←List.prefix_iff_eq_take.mp ht,encs_app,encs,encs,List.append_nil]
theorem deps_app (a:List It)(t:It):deps (a++[t])=max (deps a) (dep t+1):=by
 induction a with
 |nil=>rw [List.nil_append,deps,Nat.max_comm,deps,deps]
 |cons b r ih=>rw [List.cons_append,deps,ih,deps,Nat.max_assoc]
structure RI (o:L8)(p h n d:Nat)(a:Nat×List It×Sl)(m:Nat):Prop where
 e:encs a.2.1=(o.drop (p+h)).take (a.1-(p+h))
 l:p+h≤a.1
 r:a.1≤o.length
 d:d+deps a.2.1≤60
 w:a.1≤p+h+n∨∀ts',encs ts'≠(o.drop (p+h)).take n
 m:m=p+h+n-a.1
theorem read_loop {o:L8}(ho:o.length≤100000){m p h n d:Nat}{K Q E}(hb1:p+h+n≤o.length)(hd:d≤60)
  (ih:∀{q:Nat} {Q E},q≤o.length→((∀t,enc t <+: o.drop q→¬d+1+dep t≤60)→E 1 K)→(∀t,enc t <+: o.drop q→d+1+dep t≤60→Q (.tup [itU t,.int (q+(enc t).length:Nat)]) K)→zF code m 8 [.bytes o,.int q,.int (d+1:Nat)] K Q E)
  (hb2:∀ts,encs ts=(o.drop (p+h)).take n→(o.drop p).take (h+n)=enc (.l ts))(only:∀t,enc t <+: o.drop p→∃ts',t=.l ts'∧encs ts'=(o.drop (p+h)).take n)
  (he:(∀t,enc t <+: o.drop p→¬d+dep t≤60)→E 1 K)(hq:∀t,enc t <+: o.drop p→d+dep t≤60→Q (.tup [itU t,.int (p+(enc t).length:Nat)]) K) :
  zSs (zch m) (c_read_item.body.drop 4) [.val (.bytes o),.val (.int p),.val (.int d),.val (.bool true),.val (.int (p+h:Nat)),.val (.int (p+h+n:Nat)),.grow [],.unb] K (retZ Q) (errZ E):=by
 have dl:(o.drop p).length=o.length-p:=List.length_drop
 refine zwhl (fun a:Nat×List It×Sl=>[.val (.bytes o),.val (.int p),.val (.int d),.val (.bool true),.val (.int a.1),.val (.int (p+h+n:Nat)),.grow (itUs a.2.1),a.2.2]) (RI o p h n d) (a:=(p+h,[],.unb)) (m:=n) (fun a m' K' J kn ω=>?_)
  ⟨by rw [Nat.sub_self];rfl,Nat.le_refl _,Nat.le_trans (Nat.le_add_right _ _) hb1,hd,.inl (Nat.le_add_right _ _),(Nat.add_sub_cancel_left ..).symm⟩
 obtain ⟨q,ts,x⟩:=a
 obtain ⟨hts,hq1,hqo,hdt,hor,rfl⟩:=J
 have hlen:ts.length≤100000:=Nat.le_trans (encs_len ts) (hts▸take_le (drop_le ho))
 refine zif (fun hlt=>?_) fun hlt=>zif (fun hne=>?_) fun heq=>?_
 ·have hlt:q<p+h+n:=Int.ofNat_lt.mp hlt
  refine ih hqo (fun hno=>he fun t ht hk=>?_) fun t ht hdt'=>⟨by rw [itUs_len];exact l6 hlen,?_⟩
  ·obtain ⟨ts',rfl,hts'⟩:=only t ht
   obtain ⟨u,us,rfl,hu,_⟩:=body_more hq1 hlt hb1 ho hts hts'
   have:=dep_mem ts us u
   rw [dep] at hk
   exact hno u hu (Nat.le_trans (by rw [Nat.add_assoc,Nat.add_comm 1];exact Nat.add_le_add_left this d) hk)
  ·have hs':=body_step hq1 hts ht
   have hql:=ht.length_le
   rw [List.length_drop] at hql
   have tp:=enc_pos t
   have:=kn (q+(enc t).length,ts++[t],.val (itU t)) _ (Nat.sub_lt_sub_left hlt (Nat.lt_add_of_pos_right tp)) ⟨hs',Nat.le_trans hq1 (Nat.le_add_right _ _),Nat.add_le_of_le_sub' hqo hql,by show d+deps (ts++[t])≤60;rw [deps_app,←Nat.add_max_add_left];exact Nat.max_le.mpr ⟨hdt,by rw [Nat.add_comm (dep t),←Nat.add_assoc];exact hdt'⟩,body_w hq1 hlt hb1 ho hts ht,rfl⟩
   rw [itUs_app] at this;exact this
 ·have hne:q≠p+h+n:=fun z=>hne (congrArg Int.ofNat z)
  have hlt:¬q<p+h+n:=fun z=>hlt (Int.ofNat_lt.mpr z)
  refine he fun t ht hk=>?_
  obtain ⟨ts',rfl,hts'⟩:=only t ht
  exact hor.elim (fun z=>hlt (Nat.lt_of_le_of_ne z hne)) fun z=>z ts' hts'
 ·have heq:q=p+h+n:=Int.ofNat.inj (Decidable.not_not.mp heq)
  subst heq
  rw [Nat.add_sub_cancel_left] at hts
  have hE:=hb2 ts hts
  have:=hq (.l ts) (by rw [←hE];exact List.take_prefix _ _) (by rw [dep];exact hdt)
  rw [←hE,List.length_take,dl,Nat.min_eq_left (Nat.le_sub_of_add_le' (Nat.add_assoc p h n▸hb1)),←Nat.add_assoc] at this
  exact this
theorem read_item_ok {o:L8}(ho:o.length≤100000):∀(k d:Nat),d+k=61→∀{N p:Nat} {K Q E},k+4≤N→p≤o.length→((∀t,enc t <+: o.drop p→¬d+dep t≤60)→E 1 K)→
  (∀t,enc t <+: o.drop p→d+dep t≤60→Q (.tup [itU t,.int (p+(enc t).length:Nat)]) K)→zF code N 8 [.bytes o,.int p,.int d] K Q E:=by
 intro k
 induction k with
 |zero=>
  intro d hd N p K Q E hN hp he hq
  obtain ⟨m,rfl,_⟩:=fuel 1 hN
  exact zo rfl rfl (zt (by lia) (he fun t ω=>by lia))
 |succ k ih=>
 intro d hd N p K Q E hN hp he hq
 obtain ⟨m,rfl,hm⟩:=fuel 4 (show k+1+4≤N from hN)
 have hsl:(o.drop p).length≤100000:=Nat.le_trans (List.length_drop▸Nat.sub_le _ _) ho
 have dl:(o.drop p).length=o.length-p:=List.length_drop
 refine zo rfl rfl (zf (by lia) (read_head_ok ho (fun hn=>he fun t ht=>?_) fun b h n hh=>?_))
 ·exact (no_enc hsl hn t ht).elim
 have dd:(o.drop p).drop h=o.drop (p+h):=List.drop_drop
 cases b with
 |false=>
  obtain ⟨hb1,hb2⟩:=head_b hh
  have hb1:p+h+n≤o.length:=by lia
  refine slB (p+h) (p+h+n) ho rfl rfl ?_
  rw [Nat.add_sub_cancel_left]
  rw [dd] at hb2
  have:=hq (.b ((o.drop (p+h)).take n)) (by rw [←hb2];exact List.take_prefix _ _) (by rw [dep];lia)
  rw [←hb2,List.length_take,dl,Nat.min_eq_left (by lia),←Nat.add_assoc] at this
  exact this
 |true=>
  obtain ⟨hb0,hb1,hb2⟩:=head_l hh
  have hb1:p+h+n≤o.length:=by lia
  rw [dd] at hb2
  have only:∀t,enc t <+: o.drop p→∃ts',t=.l ts'∧encs ts'=(o.drop (p+h)).take n:=dd▸head_only hsl hh
  exact read_loop ho hb1 (by lia) (fun {q Q E} hq he hk=>ih (d+1) (by lia) (by lia) hq he hk) hb2 only he hq
theorem decoded_ok {N:Nat}{o:L8}{K Q E}(hN:66≤N)(ho:o.length≤100000)(he:(∀t,enc t=o→¬dep t≤60)→E 1 K)(hq:∀t,enc t=o→dep t≤60→Q (itU t) K):zF code N 9 [.bytes o] K Q E:=by
 obtain ⟨m,rfl,hm⟩:=fuel 1 hN
 refine zo rfl rfl (read_item_ok ho 61 0 rfl (N:=m) (p:=0) hm (Nat.zero_le _) (fun hn=>he fun t e z=>hn t ⟨[],by rw [List.append_nil,e];rfl⟩ (by rw [Nat.zero_add];exact z)) fun t ht hd=>⟨l24 ho,?_⟩)
 have ht:enc t <+: o:=ht
 have hd:dep t≤60:=Nat.zero_add (dep t)▸hd
 refine zif (fun h=>he fun t' e ω=>?_) fun h=>hq t (ht.eq_of_length ?_) hd
 ·have:=enc_inj t t' o ho ht (e▸List.prefix_refl _)
  subst this
  exact h (by rw [Nat.zero_add,e])
 ·refine Decidable.byContradiction fun z=>h fun y=>z ?_
  rw [Nat.zero_add] at y;exact Int.ofNat.inj y
end Internal
end
section
namespace Internal
noncomputable def optU:Option Nat→U
 |none=>.none
 |some x=>.int x
noncomputable def numF (B:Nat):It→Option Nat
 |.b l=>if l.take 1≠[0]∧valB l<B then some (valB l) else none
 |.l _=>none
noncomputable def fixF (k:Nat):It→Option Nat
 |.b l=>if l.length=k then some (valB l) else none
 |.l _=>none
theorem num_len {l:L8}{k:Nat}(h:l.take 1≠[0])(h2:valB l<256^k):l.length≤k:=by
 rw [←fig_valB l h];exact fig_len h2
set_option tactic.hygienic true in
theorem numF_some {B x:Nat}{t:It}(h:numF B t=some x):t=.b (fig x)∧x<B:=by
 cases t with
 |l=>cases h
 |b l=>
  have h:(if l.take 1≠[0]∧valB l<B then some (valB l) else none)=some x:=h
  split at h
  ·rename_i z;cases h;exact ⟨congrArg It.b (fig_valB l z.1).symm,z.2⟩
  ·cases h
theorem numF_fig {B x:Nat}(h:x<B):numF B (.b (fig x))=some x:=(if_pos ⟨fig_ne x,(valB_fig x).symm▸h⟩).trans (congrArg some (valB_fig x))
set_option tactic.hygienic true in
theorem fixF_some {k x:Nat}{t:It}(h:fixF k t=some x):t=.b (beN k x)∧x<256^k:=by
 cases t with
 |l=>cases h
 |b l=>
  have h:(if l.length=k then some (valB l) else none)=some x:=h
  split at h
  ·rename_i z;cases h;exact ⟨congrArg It.b (beN_valB' z).symm,z▸valB_lt l⟩
  ·cases h
theorem fixF_beN {k x:Nat}(h:x<256^k):fixF k (.b (beN k x))=some x:=(if_pos (beN_ln k x)).trans (congrArg some (valB_beN' h))
theorem law_number_ok {n:Nat}{l:L8}{B:Nat}{j:Int}{K Q E}(hj:j=B)(hl:l.length≤100000)(q:Q (if l.take 1≠[0]∧valB (l.take 40)<B then .int (valB (l.take 40)) else .none) K):zF code (n+1) 41 [.bytes l,.int j] K Q E:=by
 subst hj
 refine zo rfl rfl (slT 1 hl rfl (zif (fun h=>?_) fun h=>slT 40 hl rfl ⟨?_,?_⟩))
 ·rw [if_neg fun z=>z.1 h] at q;exact q
 ·exact Nat.le_trans (List.length_take_le _ _) (by decide)
 ·refine zforL (P:=Sl) (fun dn p=>[.val (.bytes l),.val (.int B),.val (.int (valB dn:Nat)),p]) (l.take 40) (fun p=>zif (fun h'=>?_) fun h'=>?_) (fun dn c td p k e kn ω=>?_) .unb
  ·rw [if_pos ⟨h,Int.ofNat_lt.mp h'⟩] at q;exact q
  ·rw [if_neg fun z=>h' (Int.ofNat_lt.mpr z.2)] at q;exact q
  ·have:=kn (.val (.int c.toNat))
   rw [valB_snoc] at this
   exact this
theorem law_num_it {n:Nat}{t:It}{B:Nat}{j:Int}{K Q E}(hj:j=B)(hB:B≤256^32)(hl:(enc t).length≤100000)(q:Q (optU (numF B t)) K):zF code (n+1) 41 [itU t,.int j] K Q E:=by
 cases t with
 |l ts=>exact zo rfl rfl q
 |b l=>
  refine law_number_ok hj (enc_b hl) ?_
  have e:(if l.take 1≠[0]∧valB (l.take 40)<B then U.int (valB (l.take 40)) else .none)=optU (numF B (.b l)):=by
   show _=optU (if l.take 1≠[0]∧valB l<B then some (valB l) else none)
   by_cases z:l.take 1=[0]
   ·rw [if_neg fun y=>y.1 z,if_neg fun y=>y.1 z];rfl
   by_cases h40:l.length≤40
   ·rw [List.take_of_length_le h40]
    split<;>rfl
   ·rw [if_neg fun y=>?_,if_neg fun y=>?_]
    ·rfl
    ·exact h40 (Nat.le_trans (num_len y.1 (Nat.lt_of_lt_of_le y.2 hB)) (by decide))
    ·have:=num_len (l:=l.take 40) (k:=32) (by rw [List.take_take];exact z) (Nat.lt_of_lt_of_le y.2 hB)
     rw [List.length_take] at this;lia
  exact e▸q
theorem valB_cons (l:L8):valB (1::l)=256^l.length+valB l:=by
 have:=valB_app [1] l
 rwa [valB_one,show (1:UInt8).toNat=1 from rfl,Nat.one_mul] at this
theorem law_fix_it {n k:Nat}{t:It}{j:Int}{K Q E}(hj:j=k)(hk:k≤32)(hl:(enc t).length≤100000)(q:Q (optU (fixF k t)) K):zF code (n+2) 42 [itU t,.int j] K Q E:=by
 subst hj
 cases t with
 |l ts=>exact zo rfl rfl q
 |b l=>
  have hb:=enc_b hl
  refine zo rfl rfl ⟨l24 hb,zif (fun h=>?_) fun h=>⟨?_,?_⟩⟩
  ·rw [show fixF k (.b l)=none from if_neg fun z=>h (congrArg Int.ofNat z)] at q;exact q
  ·show 1+l.length≤16777216;lia
  ·have h:l.length=k:=Decidable.byContradiction fun z=>h fun y=>z (Int.ofNat.inj y)
   rw [show fixF k (.b l)=some (valB l) from if_pos h] at q
   have ht:(1::l).take 40=1::l:=List.take_of_length_le (by rw [List.length_cons,h];lia)
   have hv:=valB_lt l
   have hc:=valB_cons l
   rw [h] at hv hc
   have p1:(256:Nat)^k≤256^32:=Nat.pow_le_pow_right (by decide) hk
   have hB:valB (1::l)<2^400:=by
    rw [hc]
    have:2*256^32≤2^400:=by decide +kernel
    generalize 256^32=x at *
    generalize 2^400=y at *
    lia
   refine powN 2 400 rfl rfl (by decide) (by decide) (law_number_ok (l:=1::l) (B:=2^400) rfl (Nat.succ_le_of_lt (Nat.lt_of_le_of_lt (h▸hk) (by decide))) ?_)
   rw [ht,if_pos ⟨nofun,hB⟩]
   exact powN 256 k rfl rfl (by decide) (Nat.le_trans hk (by decide)) (subN (valB l) (256^k) rfl rfl (by rw [hc];exact Nat.add_comm _ _) q)
end Internal
end
section
namespace Internal
structure LI (o:L8)(p h n:Nat)(a:Nat×List It×Sl)(m:Nat):Prop where
 e:encs a.2.1=(o.drop (p+h)).take (a.1-(p+h))
 l:p+h≤a.1
 r:a.1≤o.length
 w:a.1≤p+h+n∨∀ts',encs ts'≠(o.drop (p+h)).take n
 m:m=p+h+n-a.1
theorem item_loop {o:L8}(ho:o.length≤100000){m p h n F:Nat}{x:Sl}{K Q E}(hb1:p+h+n≤o.length)
  (ih:∀{q:Nat} {Q E},p+h≤q→q<p+h+n→((∀t,¬enc t <+: o.drop q)→Q .none K)→(∀t,enc t <+: o.drop q→Q (.tup [itU t,.int (q+(enc t).length:Nat)]) K)→zF code m 43 [.bytes o,.int q] K Q E)
  (hb2:∀ts,encs ts=(o.drop (p+h)).take n→(o.drop p).take (h+n)=enc (.l ts))(only:∀t,enc t <+: o.drop p→∃ts',t=.l ts'∧encs ts'=(o.drop (p+h)).take n)
  (he:(∀t,¬enc t <+: o.drop p)→Q .none K)(hq:∀t,enc t <+: o.drop p→Q (.tup [itU t,.int (p+(enc t).length:Nat)]) K) :
  zSs (zch m) (c__law_item.body.drop 9) [.val (.bytes o),.val (.int p),.val (.int F),.val (.int (p+h:Nat)),.val (.int n),x,.val (.int (p+h+n:Nat)),.unb,.grow []] K (retZ Q) (errZ E):=by
 have dl:(o.drop p).length=o.length-p:=List.length_drop
 refine zwhl (fun a:Nat×List It×Sl=>[.val (.bytes o),.val (.int p),.val (.int F),.val (.int a.1),.val (.int n),a.2.2,.val (.int (p+h+n:Nat)),.unb,.grow (itUs a.2.1)]) (LI o p h n) (a:=(p+h,[],x)) (m:=n) (fun a m' K' J kn kr=>?_)
  ⟨by rw [Nat.sub_self];rfl,Nat.le_refl _,Nat.le_trans (Nat.le_add_right _ _) hb1,.inl (Nat.le_add_right _ _),(Nat.add_sub_cancel_left ..).symm⟩
 obtain ⟨q,ts,x⟩:=a
 obtain ⟨hts,hq1,hqo,hor,rfl⟩:=J
 have hlen:ts.length≤100000:=Nat.le_trans (encs_len ts) (hts▸take_le (drop_le ho))
 refine zif (fun hlt=>?_) fun hlt=>zif (fun heq=>?_) fun hne=>?_
 ·have hlt:q<p+h+n:=Int.ofNat_lt.mp hlt
  refine ih hq1 hlt (fun hno=>kr .none _ (he fun t ht=>?_)) fun t ht=>⟨by rw [itUs_len];exact l6 hlen,?_⟩
  ·obtain ⟨ts',rfl,hts'⟩:=only t ht
   obtain ⟨u,us,rfl,hu,_⟩:=body_more hq1 hlt hb1 ho hts hts'
   exact hno u hu
  ·have hs':=body_step hq1 hts ht
   have hql:=ht.length_le
   rw [List.length_drop] at hql
   have tp:=enc_pos t
   have:=kn (q+(enc t).length,ts++[t],.val (.tup [itU t,.int (q+(enc t).length:Nat)])) _ (Nat.sub_lt_sub_left hlt (Nat.lt_add_of_pos_right tp)) ⟨hs',Nat.le_trans hq1 (Nat.le_add_right _ _),Nat.add_le_of_le_sub' hqo hql,body_w hq1 hlt hb1 ho hts ht,rfl⟩
   rw [itUs_app] at this;exact this
 ·have heq:q=p+h+n:=Int.ofNat.inj heq
  subst heq
  rw [Nat.add_sub_cancel_left] at hts
  have hE:=hb2 ts hts
  have:=hq (.l ts) (by rw [←hE];exact List.take_prefix _ _)
  rw [←hE,List.length_take,dl,Nat.min_eq_left (Nat.le_sub_of_add_le' (Nat.add_assoc p h n▸hb1)),←Nat.add_assoc] at this
  exact this
 ·have hne:q≠p+h+n:=fun z=>hne (congrArg Int.ofNat z)
  have hlt:¬q<p+h+n:=fun z=>hlt (Int.ofNat_lt.mpr z)
  refine he fun t ht=>?_
  obtain ⟨ts',rfl,hts'⟩:=only t ht
  exact hor.elim (fun z=>hlt (Nat.lt_of_le_of_ne z hne)) fun z=>z ts' hts'
theorem item_end {o:L8}(ho:o.length≤100000){m p h n F:Nat}{b:Bool}{x:Sl}{K Q E}(hx:one [x]=true)(hp:p≤o.length)(hF:b=decide (192≤F))(h1:1≤h)
  (hr:rHead (o.drop p)=if p+h+n>o.length then none else if b=false∧n=1∧(o.getD (p+h) 0).toNat<128 then none else some (b,h,n))
  (ih:∀{q:Nat} {Q E},p+h≤q→q<o.length→((∀t,¬enc t <+: o.drop q)→Q .none K)→(∀t,enc t <+: o.drop q→Q (.tup [itU t,.int (q+(enc t).length:Nat)]) K)→zF code m 43 [.bytes o,.int q] K Q E)
  (he:(∀t,¬enc t <+: o.drop p)→Q .none K)(hq:∀t,enc t <+: o.drop p→Q (.tup [itU t,.int (p+(enc t).length:Nat)]) K) :
  zSs (zch m) (c__law_item.body.drop 5) [.val (.bytes o),.val (.int p),.val (.int F),.val (.int (p+h:Nat)),.val (.int n),x,.unb,.unb,.unb] K (retZ Q) (errZ E):=by
 have dl:(o.drop p).length=o.length-p:=List.length_drop
 have hsl:(o.drop p).length≤100000:=Nat.le_trans (dl▸Nat.sub_le _ _) ho
 have no:rHead (o.drop p)=none→∀t,¬enc t <+: o.drop p:=no_enc hsl
 have dd:(o.drop p).drop h=o.drop (p+h):=List.drop_drop
 refine ⟨l24 ho,zif (fun k=>he (no (hr.trans (if_pos (Int.ofNat_lt.mp k))))) fun k=>?_⟩
 have k:p+h+n≤o.length:=Nat.le_of_not_lt fun z=>k (Int.ofNat_lt.mpr z)
 rw [if_neg (Nat.not_lt_of_le k)] at hr
 refine zif (fun hb=>?_) fun hb=>?_
 ·have hb:b=false:=hF.trans (decide_eq_false (Nat.not_le_of_gt (Int.ofNat_lt.mp hb)))
  subst hb
  have ok:¬(n=1∧(o.getD (p+h) 0).toNat<128)→zSlc (some ((p+h:Nat):Int)) (some ((p+h+n:Nat):Int)) (.bytes o) fun u=>Q (.tup [u,.int (p+h+n:Nat)]) K:=fun z=>by
   rw [if_neg fun w=>z w.2] at hr
   obtain ⟨_,hb2⟩:=head_b hr
   rw [dd] at hb2
   refine slB (p+h) (p+h+n) ho rfl rfl ?_
   rw [Nat.add_sub_cancel_left]
   have:=hq (.b ((o.drop (p+h)).take n)) (by rw [←hb2];exact List.take_prefix _ _)
   rw [←hb2,List.length_take,dl,Nat.min_eq_left (by clear hr;lia),←Nat.add_assoc] at this
   exact this
  refine zif (fun a1=>⟨⟨Int.natCast_nonneg _,by clear hr;lia,l24 ho⟩,zif (fun a2=>?_) fun a2=>ok fun z=>a2 (Int.ofNat_lt.mpr z.2)⟩) fun a1=>ok fun z=>a1 (congrArg Int.ofNat z.1)
  exact he (no (hr.trans (if_pos ⟨rfl,Int.ofNat.inj a1,Int.ofNat_lt.mp a2⟩)))
 ·have hb:b=true:=hF.trans (decide_eq_true (Nat.le_of_not_lt fun z=>hb (Int.ofNat_lt.mpr z)))
  subst hb
  rw [if_neg nofun] at hr
  obtain ⟨hb0,hb1,hb2⟩:=head_l hr
  rw [dd] at hb2
  have only:∀t,enc t <+: o.drop p→∃ts',t=.l ts'∧encs ts'=(o.drop (p+h)).take n:=dd▸head_only hsl hr
  have ih:∀{q:Nat} {Q E},p+h≤q→q<p+h+n→_:=fun {q Q E} a b=>ih (Q:=Q) (E:=E) a (Nat.lt_of_lt_of_le b k)
  cases x with
  |unb=>exact item_loop (F:=F) (x:=.unb) (E:=E) ho k ih hb2 only he hq
  |val u=>exact item_loop (F:=F) (x:=.val u) (E:=E) ho k ih hb2 only he hq
  |_=>cases hx
end Internal
end
section
namespace Internal
theorem told_num {n:Nat}{l:L8}{K Q E}(hl:l.length≤8)(q:Q (if l.take 1=[0] then .none else .int (valB l)) K):zF code (n+1) 41 [.bytes l,.int (2^320:Nat)] K Q E:=by
 refine law_number_ok (B:=2^320) rfl (Nat.le_trans hl (by decide)) ?_
 have h40:l.take 40=l:=List.take_of_length_le (Nat.le_trans hl (by decide))
 rw [h40]
 have hv:valB l<2^320:=Nat.lt_of_lt_of_le (valB_lt l) (Nat.le_trans (Nat.pow_le_pow_right (by decide) hl) (by decide +kernel))
 by_cases z:l.take 1=[0]
 ·rw [if_pos z] at q;rw [if_neg fun y=>y.1 z];exact q
 ·rw [if_neg z] at q;rw [if_pos ⟨z,hv⟩];exact q
theorem item_mid {o:L8}(ho:o.length≤100000){m p G F:Nat}{b:Bool}{K Q E}(hp:p<o.length)(hF:b=decide (192≤F))(hG:G≤63)(e:rHead (o.drop p)=hd_ b G (o.drop (p+1)))
  (ih:∀{q:Nat} {Q E},p+1≤q→q<o.length→((∀t,¬enc t <+: o.drop q)→Q .none K)→(∀t,enc t <+: o.drop q→Q (.tup [itU t,.int (q+(enc t).length:Nat)]) K)→zF code (m+1) 43 [.bytes o,.int q] K Q E)
  (he:(∀t,¬enc t <+: o.drop p)→Q .none K)(hq:∀t,enc t <+: o.drop p→Q (.tup [itU t,.int (p+(enc t).length:Nat)]) K) :
  zSs (zch (m+1)) (c__law_item.body.drop 4) [.val (.bytes o),.val (.int p),.val (.int F),.val (.int (p+1:Nat)),.val (.int G),.unb,.unb,.unb,.unb] K (retZ Q) (errZ E):=by
 have dl:(o.drop p).length=o.length-p:=List.length_drop
 have hsl:(o.drop p).length≤100000:=Nat.le_trans (dl▸Nat.sub_le _ _) ho
 have no:rHead (o.drop p)=none→Q .none K:=fun hn=>he (no_enc hsl hn)
 have hr:(o.drop (p+1)).length+(p+1)=o.length:=by rw [List.length_drop];exact Nat.sub_add_cancel hp
 unfold hd_ at e
 generalize hL:(o.drop (p+1)).length=L at e hr
 refine zif (fun h2=>?_) fun h2=>?_
 ·have h2:55<G:=Int.ofNat_lt.mp h2
  rw [if_neg (Nat.not_le_of_gt h2)] at e
  obtain ⟨g,rfl⟩:=sub55 55 (Nat.le_of_lt h2)
  rw [Nat.add_sub_cancel] at e
  have hg2:g≤8:=Nat.le_of_add_le_add_right hG
  refine subN (x:=p+1+(g+55)) (p+1+g) 55 rfl rfl (Nat.add_assoc ..).symm (slB (p+1) (p+1+g) ho rfl rfl ?_)
  rw [Nat.add_sub_cancel_left]
  have hw8:((o.drop (p+1)).take g).length≤8:=Nat.le_trans (List.length_take_le _ _) hg2
  have hwl:((o.drop (p+1)).take g).length=min g L:=by rw [List.length_take,hL]
  generalize ((o.drop (p+1)).take g)=w at e hw8 hwl
  have w24:w.length≤16777216:=Nat.le_trans hw8 (by decide)
  refine ⟨w24,subN g 55 rfl rfl rfl (zif (fun h3=>?_) fun h3=>?_)⟩
  ·exact no (e.trans (if_pos (Nat.not_le.mp fun z=>Nat.lt_irrefl g (Nat.lt_of_le_of_lt (Nat.le_of_eq (hwl.trans (Nat.min_eq_left z)).symm) (Int.ofNat_lt.mp h3)))))
  have h3:g≤L:=Nat.le_of_not_lt fun z=>h3 (Int.ofNat_lt.mpr (Nat.lt_of_le_of_lt (Nat.le_of_eq (hwl.trans (Nat.min_eq_right (Nat.le_of_lt z)))) z))
  have hwg:w.length=g:=hwl.trans (Nat.min_eq_left h3)
  rw [if_neg (Nat.not_lt_of_le h3)] at e
  refine powN 2 320 rfl rfl (by decide) (by decide) (told_num hw8 ?_)
  by_cases z:w.take 1=[0]
  ·rw [if_pos z] at e⊢
   exact no e
  rw [if_neg z] at e⊢
  refine ⟨w24,powN 2 320 rfl rfl (by decide) (by decide) (told_num hw8 ?_)⟩
  rw [if_neg z]
  refine zif (fun h4=>no (e.trans (if_pos (Nat.le_of_lt_succ (Int.ofNat_lt.mp h4))))) fun h4=>?_
  have h4:¬valB w≤55:=fun z=>h4 (Int.ofNat_lt.mpr (Nat.lt_succ_of_le z))
  rw [if_neg h4] at e
  have ea:p+1+w.length=p+(1+g):=by rw [hwg];exact Nat.add_assoc ..
  refine (ea▸item_end (h:=1+g) (F:=F) (E:=E) (x:=.val (.bytes w)) ho rfl (Nat.le_of_lt hp) hF (Nat.le_add_right _ _) ?_ (fun {q Q E} a=>ih (Nat.le_trans (Nat.add_le_add_left (Nat.le_add_right _ _) _) a)) he hq :)
  rw [e]
  by_cases c:g+valB w>L
  ·rw [if_pos c];exact (if_pos (as4▸(lt_iff hr).mpr c)).symm
  ·rw [if_neg c];exact ((if_neg fun z=>c ((lt_iff hr).mp (as4▸z))).trans (if_neg fun y=>h4 (by rw [y.2.1];decide))).symm
 ·have h2:G≤55:=Nat.le_of_not_lt fun z=>h2 (Int.ofNat_lt.mpr z)
  rw [if_pos h2,drop_getD,Nat.add_zero] at e
  refine item_end (h:=1) (F:=F) (E:=E) (x:=.unb) ho rfl (Nat.le_of_lt hp) hF (Nat.le_refl _) ?_ ih he hq
  rw [e]
  by_cases c:G>L
  ·rw [if_pos c];exact (if_pos ((lt_iff hr).mpr c)).symm
  ·rw [if_neg c];exact (if_neg fun z=>c ((lt_iff hr).mp z)).symm
theorem law_item_ok {o:L8}(ho:o.length≤100000):∀(N:Nat) {p:Nat} {K Q E},o.length-p<N→p≤o.length→((∀t,¬enc t <+: o.drop p)→Q .none K)→(∀t,enc t <+: o.drop p→Q (.tup [itU t,.int (p+(enc t).length:Nat)]) K)→zF code N 43 [.bytes o,.int p] K Q E:=by
 intro N
 induction N with
 |zero=>exact fun h=>absurd h (Nat.not_lt_zero _)
 |succ N ih=>
 intro p K Q E hN hp he hq
 have dl:(o.drop p).length=o.length-p:=List.length_drop
 have hsl:(o.drop p).length≤100000:=Nat.le_trans (dl▸Nat.sub_le _ _) ho
 refine zo rfl rfl ⟨l24 ho,zif (fun h=>he fun t ht=>?_) fun h=>?_⟩
 ·have:=ht.length_le
  have h:o.length≤p:=Int.ofNat_le.mp h
  rw [dl,Nat.sub_eq_zero_of_le h] at this
  exact absurd (enc_pos t) (Nat.not_lt_of_le this)
 have hp:p<o.length:=Nat.lt_of_not_le fun z=>h (Int.ofNat_le.mpr z)
 obtain ⟨m,rfl⟩:=sub55 1 (Nat.le_trans (Nat.sub_pos_of_lt hp) (Nat.le_of_lt_succ hN))
 have hd:=drop_get hp
 have hF:=(o.getD p 0).toNat_lt
 refine ⟨⟨Int.natCast_nonneg p,Int.ofNat_lt.mpr hp,l24 ho⟩,zif (fun h1=>?_) fun h1=>?_⟩
 ·refine slB p (p+1) ho rfl rfl ?_
  rw [Nat.add_sub_cancel_left]
  have hh:rHead (o.drop p)=some (false,0,1):=by rw [hd];exact if_pos (Int.ofNat_lt.mp h1)
  obtain ⟨_,hb2⟩:=head_b hh
  rw [List.drop_zero,Nat.zero_add] at hb2
  have:=hq (.b ((o.drop p).take 1)) (by rw [←hb2];exact List.take_prefix _ _)
  rw [←hb2,List.length_take,dl,Nat.min_eq_left (Nat.sub_pos_of_lt hp)] at this
  exact this
 have h1:¬(o.getD p 0).toNat<128:=fun z=>h1 (Int.ofNat_lt.mpr z)
 have e:=rHead_c (r:=o.drop (p+1)) h1
 rw [←hd] at e
 have ih:∀{q:Nat} {Q E},p+1≤q→q<o.length→((∀t,¬enc t <+: o.drop q)→Q .none K)→(∀t,enc t <+: o.drop q→Q (.tup [itU t,.int (q+(enc t).length:Nat)]) K)→zF code (m+1) 43 [.bytes o,.int q] K Q E:=fun {q Q E} a b=>ih (Nat.lt_of_lt_of_le (Nat.sub_lt_sub_left hp a) (Nat.le_of_lt_succ hN)) (Nat.le_of_lt b)
 refine zif (fun h2=>?_) fun h2=>?_
 ·have h2:192≤(o.getD p 0).toNat:=Int.ofNat_le.mp h2
  have hb:=(decide_eq_true h2).symm
  rw [decide_eq_true h2,if_pos h2] at e
  obtain ⟨G,hg⟩:=sub55 192 h2
  rw [hg,Nat.add_sub_cancel] at e
  exact subN (x:=(o.getD p 0).toNat) G 192 rfl rfl hg (item_mid (F:=(o.getD p 0).toNat) (E:=E) ho hp hb (lt_sub hg hF rfl) e ih he hq)
 ·have h2:¬192≤(o.getD p 0).toNat:=fun z=>h2 (Int.ofNat_le.mpr z)
  have hb:=(decide_eq_false h2).symm
  rw [decide_eq_false h2,if_neg h2] at e
  obtain ⟨G,hg⟩:=sub55 128 (Nat.le_of_not_lt h1)
  rw [hg,Nat.add_sub_cancel] at e
  exact subN (x:=(o.getD p 0).toNat) G 128 rfl rfl hg (item_mid (F:=(o.getD p 0).toNat) (E:=E) ho hp hb (lt_sub hg (Nat.lt_of_not_le h2) rfl) e ih he hq)
theorem law_list_ok {o:L8}{N p c:Nat}{K Q E}(hN:o.length-p+1<N)(ho:o.length≤100000)(hp:p≤o.length)(hno:(∀ts:List It,ts.length=c→o.drop p≠enc (.l ts))→Q .none K)
  (hq:∀ts:List It,ts.length=c→o.drop p=enc (.l ts)→Q (itU (.l ts)) K):zF code N 44 [.bytes o,.int p,.int c] K Q E:=by
 obtain ⟨m,rfl,hm⟩:=fuel 1 hN
 have dl:(o.drop p).length=o.length-p:=List.length_drop
 have hsl:(o.drop p).length≤100000:=Nat.le_trans (dl▸Nat.sub_le _ _) ho
 refine zo rfl rfl (law_item_ok ho m (Nat.lt_of_lt_of_le (Nat.lt_succ_self _) hm) hp (fun h=>hno fun ts ω z=>h (.l ts) (z▸List.prefix_refl _)) fun t ht=>?_)
 have uniq:∀ts:List It,o.drop p=enc (.l ts)→t=.l ts:=fun ts z=>enc_inj _ _ (o.drop p) hsl ht (z▸List.prefix_refl _)
 refine ⟨l24 ho,zif (fun h=>hno fun ts ω z=>h ?_) fun h=>?_⟩
 ·rw [uniq ts z,←z,dl];exact congrArg Int.ofNat (Nat.add_sub_of_le hp)
 have h:p+(enc t).length=o.length:=Decidable.byContradiction fun z=>h fun y=>z (Int.ofNat.inj y)
 have et:o.drop p=enc t:=(ht.eq_of_length (by rw [dl,←h,Nat.add_sub_cancel_left])).symm
 cases t with
 |b l=>exact hno fun ts ω z=>nomatch uniq ts z
 |l ts=>
  have hl:(enc (.l ts)).length≤100000:=et▸hsl
  refine ⟨by rw [itUs_len];exact l6 (Nat.le_trans (encs_len ts) (enc_l hl)),?_⟩
  refine zif (fun h'=>hq ts ?_ et) fun h'=>hno fun ts' e z=>h' ?_
  ·rw [itUs_len] at h';exact Int.ofNat.inj h'
  ·cases uniq ts' z;rw [itUs_len,e]
end Internal
end
section
namespace Internal
theorem led_ok {n x:Nat}{K Q E}(q:Q (.int (x % 2^256:Nat)) K):zF code (n+1) 10 [.int x] K Q E:=zo rfl rfl q
theorem word_octets_ok {n x:Nat}{K Q E}(hx:x<2^256)(q:Q (.bytes (beN 32 x)) K):zF code (n+2) 11 [.int x] K Q E:=by
 refine zo rfl rfl (led_ok ?_)
 rw [Nat.mod_eq_of_lt hx]
 exact ⟨⟨by decide,by decide,Int.natCast_nonneg x,lt256 (k:=32) hx⟩,q⟩
theorem slN {l:L8}{Q:U→Prop}(hl:l.length≤32)(q:Q (.bytes l)):zSlc (some (-32)) none (.bytes l) Q:=by
 unfold zSlc
 have c:clip l.length (-32)=0:=by
  show (max 0 (min ((-32:Int)+(l.length:Int)) l.length)).toNat=0
  rw [Int.max_eq_left (Int.le_trans (Int.min_le_left ..) (by omega))];rfl
 have e:cut l (some (-32)) none=l:=by
  show (l.drop (clip l.length (-32))).take (l.length-clip l.length (-32))=l
  rw [c];exact List.take_length
 exact .mk ⟨Nat.le_trans hl (by decide),e.symm▸q⟩
theorem octets_word_ok {n:Nat}{l:L8}{K Q E}(hl:l.length≤32)(q:Q (.int (valB l)) K):zF code (n+1) 12 [.bytes l] K Q E:=zo rfl rfl (slN hl ⟨Nat.le_trans hl (by decide),q⟩)
theorem read_num_it {n B:Nat}{t:It}{j:Int}{K Q E}(hj:j=B)(hB:B≤256^32)(hl:(enc t).length≤100000)(he:numF B t=none→E 1 K)(q:∀x,numF B t=some x→Q (.int x) K):zF code (n+2) 13 [itU t,.int j] K Q E:=by
 subst hj
 cases t with
 |l ts=>exact zo rfl rfl (he rfl)
 |b l=>
  have hb:=enc_b hl
  refine zo rfl rfl ⟨l24 hb,zif (fun h=>he (if_neg fun z=>?_)) fun h=>octets_number_ok hb (fun z=>he (if_neg fun y=>y.1 z)) fun z=>zif (fun h'=>he (if_neg fun y=>?_)) fun h'=>q _ (if_pos ⟨z,?_⟩)⟩
  ·have:=num_len z.1 (Nat.lt_of_lt_of_le z.2 hB)
   exact absurd (Int.ofNat_lt.mp h) (Nat.not_lt_of_le (Nat.le_trans this (by decide)))
  ·exact absurd y.2 (Nat.not_lt_of_le (Int.ofNat_le.mp h'))
  ·exact Nat.lt_of_not_le fun y=>h' (Int.ofNat_le.mpr y)
theorem read_fix_it {n k:Nat}{t:It}{j:Int}{K Q E}(hj:j=k)(hk:k≤32)(hl:(enc t).length≤100000)(he:fixF k t=none→E 1 K)(q:∀x,fixF k t=some x→Q (.int x) K):zF code (n+2) 14 [itU t,.int j] K Q E:=by
 subst hj
 cases t with
 |l ts=>exact zo rfl rfl (he rfl)
 |b l=>
  refine zo rfl rfl ⟨l24 (enc_b hl),zif (fun h=>he (if_neg fun z=>h (congrArg Int.ofNat z))) fun h=>?_⟩
  have h:l.length=k:=Decidable.byContradiction fun z=>h fun y=>z (Int.ofNat.inj y)
  exact octets_word_ok (h▸hk) (q _ (if_pos h))
theorem read_root_it {n:Nat}{t:It}{K Q E}(hl:(enc t).length≤100000)(he:fixF 32 t=none→E 1 K)(q:∀l,t=.b l→l.length=32→Q (.bytes l) K):zF code (n+1) 24 [itU t] K Q E:=by
 cases t with
 |l ts=>exact zo rfl rfl (he rfl)
 |b l=>
  refine zo rfl rfl ⟨l24 (enc_b hl),zif (fun h=>he (if_neg fun z=>h (congrArg Int.ofNat z))) fun h=>q l rfl ?_⟩
  exact Decidable.byContradiction fun z=>h fun y=>z (Int.ofNat.inj y)
theorem zdf {n args K Q E}(h:zDraw args K Q):zF code (n+1) 30 args K Q E:=by rw [zF_succ];exact .mk h
theorem zdr {z:Nat}{j:Int}{K Q}(hj:j=z)(hz:0<z)(h:∀r:Nat,r<z→Q (.int r) K):zDraw [.well,.int j] K Q:=by
 unfold zDraw
 subst hj
 exact .mk ⟨Int.ofNat_lt.mpr hz,fun r k=>h r (Int.ofNat_lt.mp k)⟩
theorem nthN {Q:U→Prop}:∀{ns:List Nat} {r:Nat},r<ns.length→(∀x∈ns,Q (.int x))→nthU (natU ns) r Q
 |x::_,0,_,q=>q x (.head _)
 |_::ns,r+1,h,q=>nthN (ns:=ns) (Nat.lt_of_succ_lt_succ h) fun x m=>q x (.tail _ m)
theorem pick_ok {n:Nat}{ns:List Nat}{K Q E}(h0:0<ns.length)(h1:ns.length≤1000)(q:∀x∈ns,Q (.int x) K):zF code (n+2) 31 [.well,.tup (natU ns)] K Q E:=by
 refine zo rfl rfl ⟨by rw [natU_len];exact Nat.le_trans h1 (by decide),zdf (zdr (congrArg Int.ofNat natU_len) h0 fun r hr=>gd_ ⟨Int.natCast_nonneg r,by lia⟩ (nthN hr q))⟩
noncomputable def shorts:List Nat:=[0,1,128,2^64-1]
noncomputable def wides:List Nat:=[0,1,10^9,2^256-1]
noncomputable def homes:List Nat:=[0,4097,2^160-1]
theorem short_ok {n K Q E}(q:Q (.tup (natU shorts)) K):zF code (n+1) 27 [] K Q E:=zo rfl rfl (powN 2 64 rfl rfl (by decide) (by decide) (subN (2^64-1) 1 rfl rfl (by decide) q))
theorem wide_ok {n K Q E}(q:Q (.tup (natU wides)) K):zF code (n+1) 28 [] K Q E:=zo rfl rfl (powN 10 9 rfl rfl (by decide) (by decide) (powN 2 256 rfl rfl (by decide) (by decide) (subN (2^256-1) 1 rfl rfl (by decide) q)))
theorem homes_ok {n K Q E}(q:Q (.tup (natU homes)) K):zF code (n+1) 29 [] K Q E:=zo rfl rfl (powN 2 160 rfl rfl (by decide) (by decide) (subN (2^160-1) 1 rfl rfl (by decide) q))
theorem seeded_ok {n m:Nat}{j:Int}{K Q E}(hj:j=m)(hm:m≤1000)(q:∀l:L8,l.length=m→Q (.bytes l) K):zF code (n+2) 32 [.well,.int j] K Q E:=by
 subst hj
 refine zo rfl rfl (zdf (zdr (z:=256) rfl (by decide) fun s hs=>⟨⟨Int.natCast_nonneg m,by lia⟩,?_⟩))
 refine zcl (fun i:Nat=>U.int (i:Int)) (fun i:Nat=>U.int ((s+37*i) % 256:Nat)) (List.range m) (fun x mx acc k q=>gd_ ?_ q) ?_
 ·have:=List.mem_range.mp mx
  show x<18446744073709551616
  lia
 ·have e:([]++(List.range m).map fun i:Nat=>U.int ((s+37*i) % 256:Nat))=natU ((List.range m).map fun i=>(s+37*i) % 256):=(List.map_map (l:=List.range m) (f:=fun i=>(s+37*i) % 256) (g:=fun g:Nat=>U.int (g:Int))).symm
  rw [e]
  refine bytN (fun g mg=>?_) (by rw [List.length_map,List.length_range];exact Nat.le_trans hm (by decide)) (q _ (by rw [List.length_map,List.length_map,List.length_range]))
  obtain ⟨i,_,rfl⟩:=List.mem_map.mp mg
  exact Nat.mod_lt _ (by decide)
theorem bits4 {b:Nat}(h:3≤b∧b≤6):b=3∨b=4∨b=5∨b=6:=by lia
theorem bits_f {b:Nat}(h:3≤b∧b≤6):2^b/8≤8∧2^2^b=256^(2^b/8)∧2^b≤64:=by
 rcases bits4 h with rfl |rfl |rfl |rfl<;>decide +kernel
theorem bloom_ok {n b:Nat}{x:Int}{K Q E}(hb:3≤b∧b≤6)(he:¬(0≤x∧x<((2^2^b:Nat):Int))→E 0 K)(q:∀m:Nat,x=m→m<2^2^b→Q (.bytes (beN (2^b/8) m)) K):zF code (n+1) 0 [.int x,.int b] K Q E:=by
 have ⟨h1,h2,h3⟩:=bits_f hb
 refine zo rfl rfl (zt (Int.ofNat_le.mpr hb.1) (zt (Int.ofNat_le.mpr (Nat.le_trans hb.2 (by decide))) (zif (fun h0=>shlN 1 b rfl rfl (by decide) (Nat.le_trans hb.2 (by decide)) (shlN 1 (1*2^b) rfl rfl (by decide) (by rw [Nat.one_mul];exact Nat.le_trans h3 (by decide)) (zif (fun hx=>?_) fun hx=>?_))) fun h0=>he fun z=>h0 z.1)))
 ·obtain ⟨m,rfl⟩:=Int.eq_ofNat_of_zero_le h0
  rw [Nat.one_mul,Nat.one_mul] at hx
  have hm:=Int.ofNat_lt.mp hx
  refine shlN 1 b rfl rfl (by decide) (Nat.le_trans hb.2 (by decide)) ?_
  rw [Nat.one_mul]
  exact ⟨⟨Int.natCast_nonneg _,Int.ofNat_le.mpr (Nat.le_trans h1 (by decide)),Int.natCast_nonneg m,lt256 (k:=2^b/8) (h2▸hm)⟩,q m rfl hm⟩
 ·rw [Nat.one_mul,Nat.one_mul] at hx
  exact he fun z=>hx z.2
end Internal
end
section
namespace Internal
structure Lg where
 home:Nat
 topics:List Nat
 data:L8
structure Rc where
 kind:Nat
 good:Bool
 used:Nat
 bloom:Nat
 logs:List Lg
noncomputable def LgOK (g:Lg):Prop:=g.home<2^160∧g.topics.length≤4∧∀t∈g.topics,t<2^256
noncomputable def RcOK (b:Nat)(r:Rc):Prop:=r.kind≤2∧r.used<2^64∧r.bloom<2^2^b∧∀g∈r.logs,LgOK g
noncomputable def LgT (g:Lg):It:=.l [.b (beN 20 g.home),.l (g.topics.map fun t=>.b (beN 32 t)),.b g.data]
noncomputable def RcT (b:Nat)(r:Rc):It:=.l [.b (if r.good then [1] else []),.b (fig r.used),.b (beN (2^b/8) r.bloom),.l (r.logs.map LgT)]
noncomputable def kindB (k:Nat):L8:=if k=0 then [] else [UInt8.ofNat k]
noncomputable def RcB (b:Nat)(r:Rc):L8:=kindB r.kind++enc (RcT b r)
noncomputable def LgU (g:Lg):U:=.tup [.int g.home,.list (natU g.topics),.bytes g.data]
noncomputable def LgO (g:Lg):U:=.obj 2 [.int g.home,.list (natU g.topics),.bytes g.data]
noncomputable def RcU (r:Rc):U:=.list [.int r.kind,.bool r.good,.int r.used,.int r.bloom,.list (r.logs.map LgU)]
noncomputable def RcO (k:Int)(good:Bool)(u bl:Int)(gs:List Lg):U:=.obj 3 [.int k,.bool good,.int u,.int bl,.list (gs.map LgO)]
theorem beN_drop (k m x:Nat):(beN (k+m) x).drop k=beN m x:=by
 induction k with
 |zero=>rw [Nat.zero_add];rfl
 |succ k ih=>rw [Nat.add_right_comm,beN_hd,List.drop_succ_cons,ih]
theorem zeq_same {x:U}{R:Bool→Prop}(h:plain 32 x=true)(q:R true):zEqU x x R:=by unfold zEqU;exact .mk (.inl ⟨rfl,h,q⟩)
theorem zcl0 {α:Type}{step:U→List U→KS→(List U→KS→Prop)→Prop}{Q:List U→KS→Prop}(f:α→U){K:KS}{acc:List U}:∀(l:List α),(∀x∈l,∀k,k acc K→step (f x) acc K k)→Q acc K→zCL step (l.map f) acc K Q
 | [],_,q=>q
 |x::r,hs,q=>hs x (.head _) _ (zcl0 f r (fun y m=>hs y (.tail _ m)) q)
theorem itUs_b {α:Type}(f:α→L8)(l:List α):itUs (l.map fun t=>.b (f t))=l.map fun t=>.bytes (f t):=by
 rw [itUs_map,List.map_map];rfl
theorem rng {x:Nat}{a:Int}{B:Nat}{R:Bool→Prop}(ha:a=B)(h:x<B)(q:R true):brd (0≤(x:Int)) fun b=>cond b (brd ((x:Int)<a) R) (R false):=zt (Int.natCast_nonneg x) (zt (ha▸Int.ofNat_lt.mpr h) q)
theorem word20_ok {n x:Nat}{K}{Q:ZQ}{E}(hx:x<2^160)(q:Q (.bytes (beN 20 x)) K):zF code (n+2) 11 [.int x] K (fun u K=>zSlc (some 12) none u fun u=>Q u K) E:=
 word_octets_ok (Nat.lt_of_lt_of_le hx (Nat.pow_le_pow_right (by decide) (by decide))) (slD 12 (by rw [beN_ln];decide) rfl (by rw [beN_drop 12 20];exact q))
theorem log_ok {n:Nat}{g:Lg}{K Q E}(ok:LgOK g)(q:Q (itU (LgT g)) K):zF code (n+3) 15 [LgO g] K Q E:=by
 have hl:(natU g.topics).length≤1000000:=by rw [natU_len];exact Nat.le_trans ok.2.1 (by decide)
 refine zo rfl rfl (zat _ rfl (zt (Int.natCast_nonneg _) ?_))
 refine zt (Int.ofNat_lt.mpr (show g.home<1461501637330902918203684832716283019655932542976 from ok.1)) ?_
 refine zat _ rfl ⟨hl,?_⟩
 refine zf ?_ (zat _ rfl ?_)
 ·rw [natU_len];exact Int.not_lt.mpr (Int.ofNat_le.mpr ok.2.1)
 refine zat _ rfl ⟨hl,?_⟩
 refine zcl0 (fun t:Nat=>U.int (t:Int)) g.topics (fun t mt k q=>zt (Int.natCast_nonneg t) (zt (Int.ofNat_lt.mpr (show t<115792089237316195423570985008687907853269984665640564039457584007913129639936 from ok.2.2 t mt)) q)) (zeq_same rfl ?_)
 refine zat _ rfl (word20_ok ok.1 ?_)
 refine zat _ rfl ⟨hl,?_⟩
 refine zcl (fun t:Nat=>U.int (t:Int)) (fun t:Nat=>U.bytes (beN 32 t)) g.topics (fun t mt acc k q=>word_octets_ok (ok.2.2 t mt) q) ?_
 refine zat _ rfl ?_
 have:itU (LgT g)=.list [.bytes (beN 20 g.home),.list (g.topics.map fun t=>.bytes (beN 32 t)),.bytes g.data]:=by
  show U.list [_,.list (itUs _),_]=_
  rw [itUs_b];rfl
 rw [this] at q;exact q
theorem deps_le {k:Nat}:∀{ts:List It},(∀t∈ts,dep t+1≤k)→deps ts≤k
 | [],_=>Nat.zero_le _
 |t::r,h=>Nat.max_le.mpr ⟨h t (.head _),deps_le (ts:=r) fun t m=>h t (.tail _ m)⟩
theorem dep_LgT (g:Lg):dep (LgT g)≤2:=by
 have h:deps (g.topics.map fun t=>It.b (beN 32 t))≤1:=deps_le fun t ht=>by
  obtain ⟨x,_,rfl⟩:=List.mem_map.mp ht;exact Nat.le_refl 1
 exact Nat.max_le.mpr ⟨(by decide:1≤2),Nat.max_le.mpr ⟨Nat.succ_le_succ h,Nat.max_le.mpr ⟨(by decide:1≤2),Nat.zero_le _⟩⟩⟩
theorem dep_RcT (b:Nat)(r:Rc):dep (RcT b r)≤4:=by
 have h:deps (r.logs.map LgT)≤3:=deps_le fun t ht=>by
  obtain ⟨x,_,rfl⟩:=List.mem_map.mp ht;exact Nat.succ_le_succ (dep_LgT x)
 exact Nat.max_le.mpr ⟨(by decide:1≤4),Nat.max_le.mpr ⟨(by decide:1≤4),Nat.max_le.mpr ⟨(by decide:1≤4),Nat.max_le.mpr ⟨Nat.succ_le_succ h,Nat.zero_le _⟩⟩⟩⟩
theorem itU_LgT (l:List Lg):itUs (l.map LgT)=l.map fun g=>itU (LgT g):=by rw [itUs_map,List.map_map];rfl
theorem zin {x:U}{us:List U}{R:Bool→Prop}(f:us.all (flatInU x)=true)(h:us.any (flatEqU x)=true→R true)(k:us.any (flatEqU x)=false→R false):zIn x us R:=by
 unfold zIn
 refine .mk (gd_ f ?_)
 cases z:us.any (flatEqU x) with
 |true=>exact h z
 |false=>exact k z
theorem three {k:Int}(h:[U.int 0,U.int 1,U.int 2].any (flatEqU (.int k))=true):∃x:Nat,k=x∧x≤2:=by
 have h:(k==0||(k==1||(k==2||false)))=true:=h
 rw [Bool.or_eq_true,Bool.or_eq_true,Bool.or_eq_true] at h
 rcases h with h |h |h |h
 ·exact ⟨0,eq_of_beq h,by decide⟩
 ·exact ⟨1,eq_of_beq h,by decide⟩
 ·exact ⟨2,eq_of_beq h,by decide⟩
 ·cases h
theorem fig_1:fig 1=[1]:=by rw [fig_s (by decide),show 1/256=0 from rfl,fig_0];rfl
set_option maxHeartbeats 1000000 in
theorem octets_ok {n b:Nat}{k u bl:Int}{good:Bool}{gs:List Lg}{K Q E}(hb:3≤b∧b≤6)(ok:∀g∈gs,LgOK g)(hgl:gs.length≤1000)
  (he:¬(0≤k∧k≤2∧0≤u∧u<2^64∧0≤bl∧bl<((2^2^b:Nat):Int))→∀c,c≤1→E c K)
  (q:∀r:Rc,k=r.kind→r.good=good→u=r.used→bl=r.bloom→r.logs=gs→RcOK b r→(RcB b r).length≤100000∧Q (.bytes (RcB b r)) K):zF code (n+12) 16 [RcO k good u bl gs,.int b] K Q E:=by
 have lg:(gs.map LgO).length≤1000000:=by rw [List.length_map];exact Nat.le_trans hgl (by decide)
 have rest:∀{x y:Nat} {w:L8},k=x→u=y→x≤2→y<2^64→w=(if good then [1] else [])→
   zSs (zch (n+11)) (c_receipt_octets.body.drop 3) [.val (RcO k good u bl gs),.val (.int b),.val (.bytes (kindB x)),.val (.bytes w),.unb] K (retZ Q) (errZ E):=by
  intro x y w hx hy hx2 hy2 hw
  subst hx;subst hy;subst hw
  refine zat _ rfl ⟨lg,?_⟩
  refine zcl LgO (fun g=>itU (LgT g)) gs (fun g mg acc k q=>log_ok (ok g mg) q) ?_
  refine zat _ rfl (number_ok (Nat.lt_of_lt_of_le hy2 (by decide)) ?_)
  refine zat _ rfl ?_
  refine bloom_ok hb (fun z=>he (fun w=>z ⟨w.2.2.2.2.1,w.2.2.2.2.2⟩) 0 (by decide)) fun m hm hm2=>?_
  subst hm
  obtain ⟨hl,q⟩:=q ⟨x,good,y,m,gs⟩ rfl rfl rfl rfl rfl ⟨hx2,hy2,hm2,ok⟩
  rw [RcB,List.length_append] at hl
  have d:=dep_RcT b ⟨x,good,y,m,gs⟩
  have e:itU (RcT b ⟨x,good,y,m,gs⟩)=.list [.bytes (if good then [1] else []),.bytes (fig y),.bytes (beN (2^b/8) m),.list (gs.map fun g=>itU (LgT g))]:=by
   show U.list [_,_,_,.list (itUs _)]=_
   rw [itU_LgT];rfl
  refine encoded_ok (N:=n+11) (t:=RcT b ⟨x,good,y,m,gs⟩) e.symm (Nat.le_trans (Nat.add_le_add_right d 4) (Nat.le_trans (by decide) (Nat.le_add_left 11 n))) (Nat.le_trans d (by decide)) (Nat.le_trans (Nat.le_add_left _ _) hl) ?_
  exact ⟨l24 hl,q⟩
 have mid:∀{x y:Nat},k=x→u=y→x≤2→y<2^64→zSs (zch (n+11)) (c_receipt_octets.body.drop 2) [.val (RcO k good u bl gs),.val (.int b),.val (.bytes (kindB x)),.unb,.unb] K (retZ Q) (errZ E):=by
  intro x y hx hy hx2 hy2
  refine zat _ rfl ?_
  cases good with
  |true=>exact number_ok (x:=1) (by decide) (rest hx hy hx2 hy2 fig_1)
  |false=>exact number_ok (x:=0) (by decide) (rest hx hy hx2 hy2 fig_0)
 refine zo rfl rfl (zat _ rfl ?_)
 refine zin rfl (fun h=>?_) fun h=>?_
 ·obtain ⟨x,rfl,hx2⟩:=three h
  refine zat _ rfl ?_
  refine zif (fun h0=>zif (fun h1=>?_) fun h1=>?_) fun h0=>?_
  ·obtain ⟨y,rfl⟩:=Int.eq_ofNat_of_zero_le h0
   have hy2:y<2^64:=Int.ofNat_lt.mp h1
   refine zat _ rfl ?_
   refine zif (fun hk=>?_) fun hk=>?_
   ·have hk:x=0:=Int.ofNat.inj hk
    subst hk
    have m:=mid (x:=0) (y:=y) rfl rfl hx2 hy2
    rw [show kindB 0=[] from rfl] at m
    exact m
   ·have hk:x≠0:=fun z=>hk (congrArg Int.ofNat z)
    have e:kindB x=[UInt8.ofNat x]:=if_neg hk
    have m:=mid (x:=x) (y:=y) rfl rfl hx2 hy2
    rw [e] at m
    refine zat _ rfl ?_
    exact byt1 (Nat.lt_of_le_of_lt hx2 (by decide)) m
  ·exact he (fun z=>h1 z.2.2.2.1) 1 (by decide)
  ·exact he (fun z=>h0 z.2.2.1) 1 (by decide)
 ·refine he (fun z=>?_) 1 (by decide)
  have:k=0∨k=1∨k=2:=by have:=z.1;have:=z.2.1;clear rest mid he q;lia
  rcases this with rfl |rfl |rfl<;>cases h
end Internal
end
section
namespace Internal
theorem RcB_logs {b:Nat}{r:Rc}(hl:(RcB b r).length≤1000):r.logs.length≤1000:=by
 rw [RcB,RcT,enc,List.length_append,List.length_append] at hl
 have h2:=encs_len (r.logs.map LgT)
 rw [List.length_map] at h2
 simp only [encs,enc,List.length_append] at hl
 omega
theorem itU_RcT (b:Nat)(r:Rc):itU (RcT b r)=.list [.bytes (if r.good then [1] else []),.bytes (fig r.used),.bytes (beN (2^b/8) r.bloom),.list (itUs (r.logs.map LgT))]:=rfl
set_option maxHeartbeats 1000000 in
theorem law_octets_ok {n b:Nat}{r:Rc}{K Q E}(hb:3≤b∧b≤6)(ok:RcOK b r)(hl:(RcB b r).length≤1000)(q:Q (.bytes (RcB b r)) K):zF code (n+9) 39 [RcU r,.int b] K Q E:=by
 have ⟨f1,_,f3⟩:=bits_f hb
 have hll:=RcB_logs hl
 have he:(enc (RcT b r)).length≤1000:=by rw [RcB,List.length_append] at hl;exact Nat.le_trans (Nat.le_add_left _ _) hl
 have fin:∀{w:L8} {x:Sl×Sl×Sl},w=(if r.good then [1] else [])→zSs (zch (n+8)) (c__law_receipt_octets.body.drop 3) [.val (RcU r),.val (.int b),.grow (itUs (r.logs.map LgT)),x.1,x.2.1,x.2.2,.val (.list [.bytes w,.bytes (fig r.used)])] K (retZ Q) (errZ E):=by
  intro w x hw
  refine powN 2 b rfl rfl (by decide) (Nat.le_trans hb.2 (by decide)) ?_
  refine figures_k (c:=2^b/8) (Nat.le_trans f1 (by decide)) ?_
  have lay:∀{y:L8},y=kindB r.kind→zF code (n+8) 38 [.list [.bytes w,.bytes (fig r.used),.bytes (beN (2^b/8) r.bloom),.list (itUs (r.logs.map LgT))]] K (fun u K=>zBin .add (.bytes y) u fun u=>Q u K) E:=fun {y} hy=>by
   refine laid_it (t:=RcT b r) (by rw [itU_RcT,hw]) (Nat.le_trans (Nat.add_le_add_right (dep_RcT b r) 2) (Nat.le_trans (by decide) (Nat.le_add_left 8 n))) he ?_
   subst hy
   refine ⟨?_,q⟩
   rw [RcB,List.length_append] at hl
   exact Nat.le_trans hl (by decide)
  refine zif (fun h=>lay ?_) fun h=>?_
  ·exact (if_pos (Int.ofNat.inj h)).symm
  ·have e:[UInt8.ofNat r.kind]=kindB r.kind:=(if_neg fun z=>h (congrArg Int.ofNat z)).symm
   exact byt1 (Nat.lt_of_le_of_lt ok.1 (by decide)) (lay e)
 refine zo rfl rfl ⟨by rw [List.length_map];exact Nat.le_trans hll (by decide),?_⟩
 refine zforL (P:=Sl×Sl×Sl) (f:=LgU) (fun dn x=>[.val (RcU r),.val (.int b),.grow (itUs (dn.map LgT)),x.1,x.2.1,x.2.2,.unb]) r.logs (fun x=>?_) (fun dn g td x k e kn ω=>?_) (.unb,.unb,.unb)
 ·have hu:r.used<2^256:=Nat.lt_of_lt_of_le ok.2.1 (by decide)
  obtain ⟨kind,good,used,bloom,logs⟩:=r
  cases good with
  |true=>exact figures_m hu (fin rfl)
  |false=>exact figures_m hu (fin rfl)
 ·have og:=ok.2.2.2 g (e▸List.mem_append_right _ (.head _))
  refine figures_k (c:=20) (by decide) ⟨by rw [natU_len];exact Nat.le_trans og.2.1 (by decide),?_⟩
  refine zcl (fun t:Nat=>U.int (t:Int)) (fun t:Nat=>U.bytes (beN 32 t)) g.topics (fun t mt acc k q=>figures_k (c:=32) (by decide) q) ?_
  have dl:dn.length≤1000:=by rw [e,List.length_append] at hll;exact Nat.le_trans (Nat.le_add_right _ _) hll
  refine ⟨by rw [itUs_len,List.length_map];exact Nat.le_trans dl (by decide),?_⟩
  have:=kn (.val (.int g.home),.val (.list (natU g.topics)),.val (.bytes g.data))
  rw [List.map_append,itUs_app] at this
  have e2:itUs ([g].map LgT)=[.list [.bytes (beN 20 g.home),.list (g.topics.map fun t=>.bytes (beN 32 t)),.bytes g.data]]:=by
   show [U.list [_,.list (itUs _),_]]=_
   rw [itUs_b];rfl
  rw [e2] at this
  exact this
end Internal
end
section
namespace Internal
theorem made_ok {n:Nat}{k u bl:Int}{good:Bool}{gs:List Lg}{K Q E}(hgl:gs.length≤1000)(q:Q (RcO k good u bl gs) K):zF code (n+1) 35 [.list [.int k,.bool good,.int u,.int bl,.list (gs.map LgU)]] K Q E:=by
 refine zo rfl rfl ⟨by rw [List.length_map];exact Nat.le_trans hgl (by decide),?_⟩
 exact zcl LgU LgO gs (fun g mg acc k q=>q) q
theorem zclP {α β:Type}{step:U→List U→KS→(List U→KS→Prop)→Prop}{Q:List U→KS→Prop}(f:α→U)(g:β→U)(P:β→Prop){K:KS}:∀(l:List α),(∀x∈l,∀acc k,(∀y,P y→k (acc++[g y]) K)→step (f x) acc K k)→∀{acc},(∀ys:List β,ys.length=l.length→(∀y∈ys,P y)→Q (acc++ys.map g) K)→zCL step (l.map f) acc K Q
 | [],_,_,q=>by have:=q [] rfl nofun;rw [List.map_nil,List.append_nil] at this;exact this
 |x::r,hs,acc,q=>hs x (.head _) acc _ fun y hy=>zclP f g P r (fun y m=>hs y (.tail _ m)) fun ys h hp=>by
  have:=q (y::ys) (congrArg (· + 1) h) fun z m=>(List.mem_cons.mp m).elim (fun e=>e▸hy) (hp z)
  rw [List.append_assoc];exact this
noncomputable def SmG (g:Lg):Prop:=LgOK g∧g.data.length≤56
theorem shorts_lt {x:Nat}(h:x∈shorts):x<2^64:=by
 simp only [shorts,List.mem_cons,List.not_mem_nil,or_false] at h
 rcases h with rfl |rfl |rfl |rfl<;>decide
theorem wides_lt {x:Nat}(h:x∈wides):x<2^256:=by
 simp only [wides,List.mem_cons,List.not_mem_nil,or_false] at h
 rcases h with rfl |rfl |rfl |rfl<;>decide
theorem homes_lt {x:Nat}(h:x∈homes):x<2^160:=by
 simp only [homes,List.mem_cons,List.not_mem_nil,or_false] at h
 rcases h with rfl |rfl |rfl<;>decide
theorem sizes_le {x:Nat}(h:x∈[0,1,55,56]):x≤56:=by
 simp only [List.mem_cons,List.not_mem_nil,or_false] at h
 rcases h with rfl |rfl |rfl |rfl<;>decide
inductive RD (b:Nat)(v:U)(bl:Nat)(K:KS):List U→List Sl→KS→Prop
 |mk {gs:List Lg} {x y z:Sl} {r:List U}:gs.length+r.length≤3→(∀g∈gs,SmG g)→RD b v bl K r [.val .well,.val (.int b),.val v,.val (.int bl),.grow (gs.map LgU),x,y,z] K
set_option maxHeartbeats 1000000 in
theorem law_receipt_ok {n b:Nat}{K Q E}(hb:3≤b∧b≤6)(q:∀r:Rc,RcOK b r→r.logs.length≤3→(∀g∈r.logs,SmG g)→Q (RcU r) K):zF code (n+8) 33 [.well,.int b] K Q E:=by
 have ⟨_,_,h64⟩:=bits_f hb
 have hX:1<2^2^b:=Nat.one_lt_two_pow (Nat.ne_of_gt (Nat.pow_pos (by decide)))
 have rest:∀{k:Nat} {good:Bool} {u bl:Nat},k<3→u<2^64→bl<2^2^b→zSs (zch (n+7)) (c__law_receipt.body.drop 2) [.val .well,.val (.int b),.val (.list [.int k,.bool good,.int u]),.val (.int bl),.unb,.unb,.unb,.unb] K (retZ Q) (errZ E):=by
  intro k good u bl hk hu hbl
  refine zdf (zdr (z:=4) rfl (by decide) fun m hm=>⟨⟨Int.natCast_nonneg m,by lia⟩,?_⟩)
  refine zfor (RD b (.list [.int k,.bool good,.int u]) bl K) (fun ρ K' h=>?_) (fun x r ρ K' k' h kn ω=>?_) (.mk (gs:=[]) (by show 0+_≤3;rw [List.length_map,List.length_range,Nat.zero_add];exact Nat.le_of_lt_succ hm) nofun)
  ·cases h with
   |mk hl hg=>exact q ⟨k,good,u,bl,_⟩ ⟨Nat.le_of_lt_succ hk,hu,hbl,fun g m=>(hg g m).1⟩ hl hg
  ·cases h with
   | @mk gs y z w _ hl hg=>
   have hl:gs.length+(r.length+1)≤3:=hl
   refine homes_ok (pick_ok (by decide) (by decide) fun ho mo=>?_)
   refine zdf (zdr (z:=5) rfl (by decide) fun t ht=>⟨⟨Int.natCast_nonneg t,by lia⟩,?_⟩)
   refine zclP (fun i:Nat=>U.int (i:Int)) (fun x:Nat=>U.int (x:Int)) (· < 2^256) (List.range t) (fun i ω acc k q=>wide_ok (pick_ok (by decide) (by decide) fun x mx=>q x (wides_lt mx))) fun ts hts htp=>?_
   rw [List.length_range] at hts
   refine pick_ok (ns:=[0,1,55,56]) (by decide) (by decide) fun sz ms=>?_
   refine seeded_ok rfl (Nat.le_trans (sizes_le ms) (by decide)) fun l hl'=>⟨by rw [List.length_map];lia,?_⟩
   have:=kn _ _ (.mk (gs:=gs++[⟨ho,ts,l⟩]) (x:=.val x) (y:=.val (.int ho)) (z:=.val (.list (natU ts))) (b:=b) (v:=.list [.int k,.bool good,.int u]) (bl:=bl) (K:=K) (r:=r) (by rw [List.length_append];show gs.length+1+r.length≤3;lia) fun g mg=>?_)
   ·rw [List.map_append] at this
    exact this
   ·rcases List.mem_append.mp mg with mg |mg
    ·exact hg g mg
    ·rw [List.mem_singleton.mp mg]
     exact ⟨⟨homes_lt mo,by show ts.length≤4;lia,htp⟩,by show l.length≤56;rw [hl'];exact sizes_le ms⟩
 refine zo rfl rfl (zdf (zdr (z:=3) rfl (by decide) fun k hk=>?_))
 refine zdf (zdr (z:=2) rfl (by decide) fun g hg=>?_)
 have after:∀{good:Bool},zF code (n+7) 27 [] K (fun u K=>(zch (n+7)).f 31 [.well,u] K (fun u K=>zSs (zch (n+7)) (c__law_receipt.body.drop 1) [.val .well,.val (.int b),.val (.list [.int k,.bool good,u]),.unb,.unb,.unb,.unb,.unb] K (retZ Q) (errZ E)) E) E:=fun {good}=>by
  refine short_ok (pick_ok (by decide) (by decide) fun u mu=>?_)
  refine powN 2 b rfl rfl (by decide) (Nat.le_trans hb.2 (by decide)) ?_
  refine powN 2 (2^b) rfl rfl (by decide) (Nat.le_trans h64 (by decide)) ?_
  refine subN (2^2^b-1) 1 rfl rfl (Nat.sub_add_cancel (Nat.le_of_lt hX)).symm ?_
  refine zdf (zdr (z:=3) rfl (by decide) fun i hi=>gd_ ⟨Int.natCast_nonneg i,by clear hX;lia⟩ (nthN (ns:=[0,1,2^2^b-1]) hi fun bl mb=>rest hk (shorts_lt mu) ?_))
  simp only [List.mem_cons,List.not_mem_nil,or_false] at mb
  rcases mb with rfl |rfl |rfl
  ·exact Nat.lt_of_lt_of_le (by decide) (Nat.le_of_lt hX)
  ·exact hX
  ·exact Nat.sub_lt (Nat.lt_of_lt_of_le (by decide) (Nat.le_of_lt hX)) (by decide)
 exact zif (fun ω=>after) fun ω=>after
end Internal
end
section
namespace Internal
theorem bent_ok {n:Nat}{o:L8}{K Q E}(h0:0<o.length)(ho:o.length≤100000)(q:∀l:L8,l.length≤o.length+1→Q (.bytes l) K):zF code (n+4) 49 [.well,.bytes o] K Q E:=by
 have ap:∀{a c:L8} {j:Nat},a.length≤j→j+c.length≤o.length+1→a.length+c.length≤16777216∧(a++c).length≤o.length+1:=fun {a c j} h k=>by
  have:a.length+c.length≤o.length+1:=Nat.le_trans (Nat.add_le_add_right h _) k
  exact ⟨Nat.le_trans this (by lia),by rw [List.length_append];exact this⟩
 refine zo rfl rfl (zdf (zdr (z:=7) rfl (by decide) fun y hy=>⟨l24 ho,?_⟩))
 refine zdf (zdr rfl h0 fun p hp=>?_)
 have tk:(o.take p).length≤p:=List.length_take_le _ _
 have d1:(o.drop (p+1)).length+(p+1)=o.length:=by rw [List.length_drop];exact Nat.sub_add_cancel hp
 have d0:(o.drop p).length+p=o.length:=by rw [List.length_drop];exact Nat.sub_add_cancel (Nat.le_of_lt hp)
 have hp6:p≤1000000:=by lia
 have hp7:p+1≤1000000:=by lia
 refine zif (fun h=>?_) fun h=>?_
 ·refine slT p ho rfl ⟨⟨Int.natCast_nonneg p,Int.ofNat_lt.mpr hp,l24 ho⟩,?_⟩
  refine zdf (zdr (z:=255) rfl (by decide) fun d hd=>?_)
  refine byt1 (x:=((o.getD p 0).toNat+1+d) % 256) (Nat.mod_lt _ (by decide)) ?_
  have a1:=ap (a:=o.take p) (c:=[UInt8.ofNat (((o.getD p 0).toNat+1+d) % 256)]) tk (by show p+1≤_;lia)
  refine ⟨a1.1,slD (p+1) ho rfl ?_⟩
  have a2:=ap (j:=p+1) (a:=o.take p++[UInt8.ofNat (((o.getD p 0).toNat+1+d) % 256)]) (c:=o.drop (p+1)) (by rw [List.length_append];exact Nat.add_le_add_right tk 1) (by lia)
  exact ⟨a2.1,q _ a2.2⟩
 refine zif (fun h=>?_) fun h=>?_
 ·refine slT p ho rfl (pick_ok (ns:=[0,1,128,192,255]) (by decide) (by decide) fun x mx=>?_)
  have hx:x<256:=by
   simp only [List.mem_cons,List.not_mem_nil,or_false] at mx
   rcases mx with rfl |rfl |rfl |rfl |rfl<;>decide
  refine byt1 hx ?_
  have a1:=ap (a:=o.take p) (c:=[UInt8.ofNat x]) tk (by show p+1≤_;lia)
  refine ⟨a1.1,slD p ho rfl ?_⟩
  have a2:=ap (j:=p+1) (a:=o.take p++[UInt8.ofNat x]) (c:=o.drop p) (by rw [List.length_append];exact Nat.add_le_add_right tk 1) (by lia)
  exact ⟨a2.1,q _ a2.2⟩
 refine zif (fun h=>?_) fun h=>?_
 ·refine slT p ho rfl (slD (p+1) ho rfl ?_)
  have a2:=ap (j:=p) (a:=o.take p) (c:=o.drop (p+1)) tk (by lia)
  exact ⟨a2.1,q _ a2.2⟩
 refine zif (fun h=>?_) fun h=>?_
 ·exact slT p ho rfl (q _ (Nat.le_trans tk (by lia)))
 refine zif (fun h=>?_) fun h=>?_
 ·refine zdf (zdr (z:=256) rfl (by decide) fun d hd=>?_)
  refine byt1 hd ?_
  have a2:=ap (j:=o.length) (a:=o) (c:=[UInt8.ofNat d]) (Nat.le_refl _) (Nat.le_refl _)
  exact ⟨a2.1,q _ a2.2⟩
 refine zdf (zdr (z:=4) rfl (by decide) fun d hd=>?_)
 refine byt1 (Nat.lt_of_lt_of_le hd (by decide)) ⟨⟨by decide,Int.ofNat_lt.mpr h0,l24 ho⟩,zif (fun h=>?_) fun h=>?_⟩
 ·refine slD 1 ho rfl ?_
  have e1:(o.drop 1).length≤o.length:=by rw [List.length_drop];exact Nat.sub_le _ _
  have a2:=ap (j:=1) (a:=[UInt8.ofNat d]) (c:=o.drop 1) (Nat.le_refl _) (by lia)
  exact ⟨a2.1,q _ a2.2⟩
 ·have a2:=ap (j:=1) (a:=[UInt8.ofNat d]) (c:=o) (Nat.le_refl _) (Nat.le_of_eq (Nat.add_comm _ _))
  exact ⟨a2.1,q _ a2.2⟩
end Internal
end
section
namespace Internal
noncomputable def allF {α β:Type}(f:α→Option β):List α→Option (List β)
 | []=>some []
 |x::r=>match f x with
  |some y=>(match allF f r with |some ys=>some (y::ys) |none=>none)
  |none=>none
set_option tactic.hygienic true in
theorem allF_some {α β:Type}{f:α→Option β}{g:β→α}{P:β→Prop}(h:∀x y,f x=some y→x=g y∧P y):∀{l:List α} {ys:List β},allF f l=some ys→l=ys.map g∧∀y∈ys,P y
 | [],_,e=>by cases e;exact ⟨rfl,nofun⟩
 |x::r,ys,e=>by
  unfold allF at e
  split at e
  ·rename_i y hy
   split at e
   ·rename_i zs hz
    cases e
    have ⟨a,b⟩:=h x y hy
    have ⟨c,d⟩:=allF_some h hz
    exact ⟨by rw [a,c];rfl,fun z m=>(List.mem_cons.mp m).elim (fun e=>e▸b) (d z)⟩
   ·cases e
  ·cases e
theorem allF_map {α β:Type}{f:α→Option β}{g:β→α}:∀{ys:List β},(∀y∈ys,f (g y)=some y)→allF f (ys.map g)=some ys
 | [],_=>rfl
 |y::ys,h=>by rw [List.map_cons,allF,h y (.head _),allF_map (ys:=ys) fun z m=>h z (.tail _ m)]
noncomputable def obnd {α β:Type}(x:Option α)(f:α→Option β):Option β:=match x with
 |some y=>f y
 |none=>none
theorem obnd_some {α β:Type}{x:Option α}{f:α→Option β}{y:β}(h:obnd x f=some y):∃z,x=some z∧f z=some y:=by
 cases x with
 |none=>cases h
 |some z=>exact ⟨z,rfl,h⟩
theorem obnd_none {α β:Type}{x:Option α}{f:α→Option β}(h:∀z,f z=none):obnd x f=none:=by
 cases x with
 |none=>rfl
 |some z=>exact h z
noncomputable def logG (u:It)(tps:List It)(d:L8):Option Lg:=if tps.length≤4 then obnd (fixF 20 u) fun h=>obnd (allF (fixF 32) tps) fun ts=>some ⟨h,ts,d⟩ else none
noncomputable def logF:It→Option Lg
 |.l [u,.l tps,.b d]=>logG u tps d
 |_=>none
theorem logG_some {u:It}{tps:List It}{d:L8}{g:Lg}(h:logG u tps d=some g):.l [u,.l tps,.b d]=LgT g∧LgOK g:=by
 unfold logG at h
 by_cases hl:tps.length≤4
 ·rw [if_pos hl] at h
  obtain ⟨home,h1,h⟩:=obnd_some h
  obtain ⟨ts,h2,h⟩:=obnd_some h
  cases h
  have ⟨a,b⟩:=fixF_some h1
  have ⟨c,d⟩:=allF_some (g:=fun x=>It.b (beN 32 x)) (P:=(· < 2^256)) (fun x y z=>fixF_some z) h2
  subst a;subst c
  rw [List.length_map] at hl
  exact ⟨rfl,b,hl,d⟩
 ·rw [if_neg hl] at h;cases h
theorem logF_some {t:It}{g:Lg}(h:logF t=some g):t=LgT g∧LgOK g:=by
 unfold logF at h
 split at h
 ·exact logG_some h
 ·cases h
theorem logF_LgT {g:Lg}(h:LgOK g):logF (LgT g)=some g:=by
 have e:=allF_map (f:=fixF 32) (g:=fun t=>It.b (beN 32 t)) (ys:=g.topics) fun t m=>fixF_beN (h.2.2 t m)
 show logG _ _ _=_
 unfold logG
 rw [List.length_map,if_pos h.2.1,fixF_beN (k:=20) h.1,e];rfl
noncomputable def rowsG (b k:Nat)(t0 t1 t2:It)(ls:List It):Option Rc:=
 obnd (numF 2 t0) fun w=>obnd (numF (2^64) t1) fun u=>obnd (fixF (2^b/8) t2) fun bl=>obnd (allF logF ls) fun gs=>some ⟨k,decide ((w:Int)=1),u,bl,gs⟩
noncomputable def rowsF (b k:Nat):List It→Option Rc
 | [t0,t1,t2,.l ls]=>rowsG b k t0 t1 t2 ls
 |_=>none
theorem fig01:∀{w:Nat},w<2→fig w=if decide ((w:Int)=1)=true then [1] else []
 |0,_=>fig_0
 |1,_=>fig_1
 |w+2,h=>absurd h (Nat.not_lt_of_le (Nat.le_add_left 2 w))
theorem obnd_el {α β:Type}{x:Option α}{f:α→Option β}{y:β}(h:obnd x f=some y){C:Prop}(k:∀z,x=some z→f z=some y→C):C:=(obnd_some h).elim fun z e=>k z e.1 e.2
theorem rowsG_some {b k:Nat}(hb:3≤b∧b≤6)(hk:k≤2){t0 t1 t2:It}{ls:List It}{r:Rc}(h:rowsG b k t0 t1 t2 ls=some r):RcT b r=.l [t0,t1,t2,.l ls]∧RcOK b r∧r.kind=k:=by
 refine obnd_el h fun w h1 h=>obnd_el h fun u h2 h=>obnd_el h fun bl h3 h=>obnd_el h fun gs h4 h=>?_
 have a1:=numF_some h1
 have a2:=numF_some h2
 have a3:=fixF_some h3
 have a4:=allF_some (g:=LgT) (P:=LgOK) (fun x y z=>logF_some z) h4
 rw [←Option.some.inj h,a1.1,a2.1,a3.1,a4.1]
 refine ⟨?_,⟨hk,a2.2,(bits_f hb).2.1▸a3.2,a4.2⟩,rfl⟩
 rw [fig01 a1.2];rfl
theorem rowsF_some {b k:Nat}(hb:3≤b∧b≤6)(hk:k≤2){ts:List It}{r:Rc}(h:rowsF b k ts=some r):RcT b r=.l ts∧RcOK b r∧r.kind=k:=by
 unfold rowsF at h
 split at h
 ·exact rowsG_some hb hk h
 ·cases h
theorem rowsF_RcT {b:Nat}(hb:3≤b∧b≤6){r:Rc}(h:RcOK b r):rowsF b r.kind [.b (if r.good then [1] else []),.b (fig r.used),.b (beN (2^b/8) r.bloom),.l (r.logs.map LgT)]=some r:=by
 have e:=allF_map (f:=logF) (g:=LgT) (ys:=r.logs) fun g m=>logF_LgT (h.2.2.2 g m)
 have eg:numF 2 (.b (if r.good then [1] else []))=some (if r.good then 1 else 0):=by
  cases r.good with
  |true=>exact fig_1▸numF_fig (B:=2) (x:=1) (by decide)
  |false=>exact fig_0▸numF_fig (B:=2) (x:=0) (by decide)
 show rowsG _ _ _ _ _ _=_
 unfold rowsG
 rw [eg,numF_fig h.2.1,fixF_beN (k:=2^b/8) ((bits_f hb).2.1▸h.2.2.1),e]
 obtain ⟨_,good,_,_,_⟩:=r
 cases good<;>rfl
noncomputable def kindOf (o:L8):Nat:=if o.take 1=[1] then 1 else if o.take 1=[2] then 2 else 0
noncomputable def restOf (o:L8):L8:=if kindOf o=0 then o else o.drop 1
theorem kind_le (o:L8):kindOf o≤2:=by
 unfold kindOf;split
 ·decide
 ·split<;>decide
theorem kind_rest (o:L8):kindB (kindOf o)++restOf o=o:=by
 unfold restOf kindB kindOf
 by_cases h:o.take 1=[1]
 ·rw [if_pos h,if_neg (by decide),if_neg (by decide)]
  have:=List.take_append_drop 1 o;rw [h] at this;exact this
 ·rw [if_neg h]
  by_cases h2:o.take 1=[2]
  ·rw [if_pos h2,if_neg (by decide),if_neg (by decide)]
   have:=List.take_append_drop 1 o;rw [h2] at this;exact this
  ·rw [if_neg h2,if_pos rfl,if_pos rfl];rfl
end Internal
end
section
namespace Internal
theorem zforF {β P:Type}{f:It→Option β}{step:U→List Sl→KS→ZS→Prop}{Q:ZS}{K:KS}(S:List β→P→List Sl)(ls:List It)(hend:∀gs p,allF f ls=some gs→Q .next (S gs p) K)(hbad:allF f ls=none→∀ρ,Q (.ret .none) ρ K)
  (hs:∀x∈ls,∀gs p k,gs.length≤ls.length→(∀y p',f x=some y→k .next (S (gs++[y]) p') K)→(f x=none→∀ρ,k (.ret .none) ρ K)→step (itU x) (S gs p) K k)(p:P):zFor step (itUs ls) (S [] p) K Q:=by
 have go:∀td dn gs p,ls=dn++td→gs.length=dn.length→(∀gs',allF f td=some gs'→allF f ls=some (gs++gs'))→(allF f td=none→allF f ls=none)→zFor step (itUs td) (S gs p) K Q:=by
  intro td
  induction td with
  |nil=>exact fun dn gs p e l h1 ω=>hend gs p (by rw [h1 [] rfl,List.append_nil])
  |cons x td ih=>
   intro dn gs p e l h1 h2
   refine hs x (e▸List.mem_append_right _ (.head _)) gs p _ (by rw [l,e,List.length_append];exact Nat.le_add_right _ _) (fun y p' hy=>?_) fun hn ρ=>hbad (h2 (by rw [allF,hn])) ρ
   refine ih (dn++[x]) (gs++[y]) p' (by rw [e,List.append_assoc];rfl) (by rw [List.length_append,List.length_append,l];rfl) (fun gs' h'=>?_) fun h'=>h2 (by rw [allF,hy,h'])
   rw [h1 (y::gs') (by rw [allF,hy,h']),List.append_assoc];rfl
 exact go ls [] [] p rfl rfl (fun ω h=>h) fun h=>h
theorem zclF {β:Type}{f:It→Option β}{step:U→List U→KS→(List U→KS→Prop)→Prop}{Q:List U→KS→Prop}{K:KS}(g:β→U){e:Prop}(ls:List It)(hend:∀gs,allF f ls=some gs→Q (gs.map g) K)(hbad:allF f ls=none→e)
  (hs:∀x∈ls,∀acc k,(∀y,f x=some y→k (acc++[g y]) K)→(f x=none→e)→step (itU x) acc K k):zCL step (itUs ls) [] K Q:=by
 have go:∀td gs,(∀x∈td,x∈ls)→(∀gs',allF f td=some gs'→allF f ls=some (gs++gs'))→(allF f td=none→allF f ls=none)→zCL step (itUs td) (gs.map g) K Q:=by
  intro td
  induction td with
  |nil=>exact fun gs ω h1 ω=>hend gs (by rw [h1 [] rfl,List.append_nil])
  |cons x td ih=>
   intro gs m h1 h2
   refine hs x (m x (.head _)) _ _ (fun y hy=>?_) fun hn=>hbad (h2 (by rw [allF,hn]))
   have:=ih (gs++[y]) (fun z mz=>m z (.tail _ mz)) (fun gs' h'=>by rw [h1 (y::gs') (by rw [allF,hy,h']),List.append_assoc];rfl) fun h'=>h2 (by rw [allF,hy,h'])
   rw [List.map_append] at this;exact this
 exact go ls [] (fun ω m=>m) (fun ω h=>h) fun h=>h
theorem enc_row {ts:List It}{t:It}(hl:(enc (.l ts)).length≤100000)(m:t∈ts):(enc t).length≤100000:=Nat.le_trans (encs_mem m) (enc_l hl)
theorem opt_flat {α:Type}(f:α→Option Nat)(l:List α):(l.map fun t=>optU (f t)).all (flatInU .none)=true:=by
 induction l with
 |nil=>rfl
 |cons x r ih=>rw [List.map_cons,List.all_cons,ih];cases f x<;>rfl
theorem opt_any {α:Type}(f:α→Option Nat)(l:List α):(l.map fun t=>optU (f t)).any (flatEqU .none)=(allF f l).isNone:=by
 induction l with
 |nil=>rfl
 |cons x r ih=>
  rw [List.map_cons,List.any_cons,ih,allF]
  cases f x with
  |none=>rfl
  |some y=>cases allF f r<;>rfl
theorem opt_good {α:Type}{f:α→Option Nat}:∀{l:List α} {ys:List Nat},allF f l=some ys→(l.map fun t=>optU (f t))=natU ys
 | [],_,e=>by cases e;rfl
 |x::r,ys,e=>by
  rw [allF] at e
  cases h:f x with
  |none=>rw [h] at e;cases e
  |some y=>
   rw [h] at e
   cases h':allF f r with
   |none=>rw [h'] at e;cases e
   |some zs=>rw [h'] at e;cases e;rw [List.map_cons,h,opt_good h'];rfl
theorem kind_1 {o:L8}(h:[U.bytes [1],U.bytes [2]].any (flatEqU (.bytes (o.take 1)))=true):0<o.length∧(o.getD 0 0).toNat=kindOf o:=by
 have h:(o.take 1==[1]||(o.take 1==[2]||false))=true:=h
 rw [Bool.or_eq_true,Bool.or_eq_true] at h
 unfold kindOf
 cases o with
 |nil=>rcases h with h |h |h<;>cases h
 |cons x r=>
  refine ⟨Nat.zero_lt_succ _,?_⟩
  rcases h with h |h |h
  ·have h:[x]=[1]:=eq_of_beq h
   cases h;rfl
  ·have h:[x]=[2]:=eq_of_beq h
   cases h;rfl
  ·cases h
theorem kind_0 {o:L8}(h:[U.bytes [1],U.bytes [2]].any (flatEqU (.bytes (o.take 1)))=false):0=kindOf o:=by
 have h:(o.take 1==[1]||(o.take 1==[2]||false))=false:=h
 rw [Bool.or_eq_false_iff,Bool.or_eq_false_iff] at h
 unfold kindOf
 rw [if_neg (ne_of_beq_false h.1),if_neg (ne_of_beq_false h.2.1)]
theorem four {ts:List It}(h:ts.length=4):∃a b c d,ts=[a,b,c,d]:=by
 match ts,h with
 | [a,b,c,d],_=>exact ⟨a,b,c,d,rfl⟩
theorem four_ {P:List It→Prop}{ts:List It}(h:ts.length=4)(k:∀a b c d,P [a,b,c,d]):P ts:=by
 obtain ⟨a,b,c,d,rfl⟩:=four h;exact k a b c d
theorem three' {ts:List It}(h:ts.length=3):∃a b c,ts=[a,b,c]:=by
 match ts,h with
 | [a,b,c],_=>exact ⟨a,b,c,rfl⟩
set_option tactic.hygienic true in
theorem log_no3 {us:List It}(h:us.length≠3):logF (.l us)=none:=by
 unfold logF
 split
 ·rename_i he;cases he;exact absurd rfl h
 ·rfl
theorem log_no {u0 u2:It}{tps:List It}(h:fixF 20 u0=none∨allF (fixF 32) tps=none∨¬tps.length≤4∨∃l,u2=.l l):logF (.l [u0,.l tps,u2])=none:=by
 cases u2 with
 |l l=>rfl
 |b d=>
  show logG u0 tps d=none
  unfold logG
  by_cases hl:tps.length≤4
  ·rw [if_pos hl]
   rcases h with h |h |h |⟨_,h⟩
   ·rw [h];rfl
   ·exact obnd_none fun ω=>by rw [h];rfl
   ·exact absurd hl h
   ·cases h
  ·exact if_neg hl
noncomputable def HR (n b k:Nat)(o:L8)(K:KS)(Q:U→KS→Prop)(E:Nat→KS→Prop)(ts:List It):Prop:=(enc (.l ts)).length≤100000→(rowsF b k ts=none→Q .none K)→(∀r,rowsF b k ts=some r→Q (RcU r) K)→
  zSs (zch (n+3)) (c__law_heard_receipt.body.drop 2) [.val (.bytes o),.val (.int b),.val (.int k),.val (itU (.l ts)),.unb,.unb,.unb,.unb,.unb,.unb,.unb] K (retZ Q) (errZ E)
set_option maxHeartbeats 2000000 in
theorem heard_rows {n b k:Nat}{o:L8}{ts:List It}{K Q E}(hb:3≤b∧b≤6)(h4:ts.length=4)(hl:(enc (.l ts)).length≤100000)(hn:rowsF b k ts=none→Q .none K)(hq:∀r,rowsF b k ts=some r→Q (RcU r) K) :
  zSs (zch (n+3)) (c__law_heard_receipt.body.drop 2) [.val (.bytes o),.val (.int b),.val (.int k),.val (itU (.l ts)),.unb,.unb,.unb,.unb,.unb,.unb,.unb] K (retZ Q) (errZ E):=by
 refine four_ (P:=HR n b k o K Q E) h4 (fun t0 t1 t2 t3=>?_) hl hn hq
 clear hl hn hq h4
 cases t3 with
 |b l=>exact fun ω hn ω=>hn rfl
 |l ls=>
 intro hl hn hq
 have f1:=(bits_f hb).1
 have l0:=enc_row (t:=t0) hl (.head _)
 have l1:=enc_row (t:=t1) hl (.tail _ (.head _))
 have l2:=enc_row (t:=t2) hl (.tail _ (.tail _ (.head _)))
 have l3:=enc_row (t:=.l ls) hl (.tail _ (.tail _ (.tail _ (.head _))))
 refine law_num_it (B:=2) rfl (by decide) l0 ?_
 refine powN 2 64 rfl rfl (by decide) (by decide) (law_num_it (B:=2^64) rfl (by decide +kernel) l1 ?_)
 refine powN 2 b rfl rfl (by decide) (Nat.le_trans hb.2 (by decide)) ?_
 refine law_fix_it (k:=2^b/8) rfl (Nat.le_trans f1 (by decide)) l2 ?_
 have hlen:ls.length≤100000:=Nat.le_trans (encs_len ls) (enc_l l3)
 refine ⟨by rw [itUs_len];exact l6 hlen,?_⟩
 refine zforF (f:=logF) (P:=Sl×Sl×Sl) (fun gs x=>[.val (.bytes o),.val (.int b),.val (.int k),.val (itU (.l [t0,t1,t2,.l ls])),.val (optU (numF 2 t0)),.val (optU (numF (2^64) t1)),.val (optU (fixF (2^b/8) t2)),.grow (gs.map LgU),x.1,x.2.1,x.2.2]) ls (fun gs x hgs=>?_) (fun h ρ=>?_) (fun x mx gs p k' hgl kn kb=>?_) (.unb,.unb,.unb)
 ·cases h0:numF 2 t0 with
  |none=>exact hn (by show obnd (numF 2 t0) _=none;rw [h0];rfl)
  |some w=>
  cases h1:numF (2^64) t1 with
  |none=>exact hn (by show obnd (numF 2 t0) _=none;rw [h0,h1];rfl)
  |some u=>
  cases h2:fixF (2^b/8) t2 with
  |none=>exact hn (by show obnd (numF 2 t0) _=none;rw [h0,h1,h2];rfl)
  |some bl=>
  have hr:=hq ⟨k,decide ((w:Int)=1),u,bl,gs⟩ (by show obnd (numF 2 t0) _=_;rw [h0,h1,h2,hgs];rfl)
  exact zif (fun z=>by rw [decide_eq_true z] at hr;exact hr) fun z=>by rw [decide_eq_false z] at hr;exact hr
 ·exact hn (obnd_none fun ω=>obnd_none fun ω=>obnd_none fun ω=>by rw [h];rfl)
 ·have lx:=enc_row l3 mx
  cases x with
  |b l=>exact kb rfl _
  |l us=>
  have lus:us.length≤100000:=Nat.le_trans (encs_len us) (enc_l lx)
  refine ⟨by rw [itUs_len];exact l6 lus,?_⟩
  refine zif (fun h=>kb (log_no3 fun z=>h (by rw [itUs_len,z];rfl)) _) fun h=>?_
  have h:us.length=3:=Decidable.byContradiction fun z=>h fun y=>z (by rw [itUs_len] at y;exact Int.ofNat.inj y)
  clear mx lus
  obtain ⟨u0,u1,u2,rfl⟩:=three' h
  clear h
  cases u1 with
  |b l=>exact kb rfl _
  |l tps=>
  have m0:=enc_row (t:=u0) lx (.head _)
  have m1:=enc_row (t:=.l tps) lx (.tail _ (.head _))
  have tlen:tps.length≤100000:=Nat.le_trans (encs_len tps) (enc_l m1)
  refine law_fix_it (k:=20) rfl (by decide) m0 ⟨by rw [itUs_len];exact l6 tlen,?_⟩
  refine zclI (fun t=>optU (fixF 32 t)) (fun t mt acc k q=>law_fix_it (k:=32) rfl (by decide) (enc_row m1 mt) q) ?_
  cases hf:fixF 20 u0 with
  |none=>exact kb (log_no (.inl hf)) _
  |some home=>
  refine zin (opt_flat _ _) (fun hz=>kb (log_no (.inr (.inl ?_))) _) fun hz=>⟨by rw [List.length_map];exact l6 tlen,zif (fun h'=>kb (log_no (.inr (.inr (.inl ?_)))) _) fun h'=>?_⟩
  ·rw [opt_any] at hz;exact Option.isNone_iff_eq_none.mp hz
  ·rw [List.length_map] at h';exact Nat.not_le_of_gt (Int.ofNat_lt.mp h')
  cases u2 with
  |l l=>exact kb rfl _
  |b d=>
  cases ha:allF (fixF 32) tps with
  |none=>rw [opt_any,ha] at hz;cases hz
  |some ts=>
  have h4:tps.length≤4:=Nat.le_of_not_lt fun z=>h' (by rw [List.length_map];exact Int.ofNat_lt.mpr z)
  have kn:=kn ⟨home,ts,d⟩ (.val (itU (.l [u0,.l tps,.b d])),.val (.int home),.val (.list (tps.map fun t=>optU (fixF 32 t)))) (by show logG _ _ _=_;unfold logG;rw [if_pos h4,hf,ha];rfl)
  have e:[(⟨home,ts,d⟩:Lg)].map LgU=[.tup [.int home,.list (tps.map fun t=>optU (fixF 32 t)),.bytes d]]:=by rw [opt_good ha];rfl
  rw [List.map_append,e] at kn
  exact ⟨by rw [List.length_map];exact l6 (Nat.le_trans hgl hlen),kn⟩
end Internal
end
section
namespace Internal
theorem rowsF_len {b k:Nat}{ts:List It}(h:ts.length≠4):rowsF b k ts=none:=by
 unfold rowsF
 split
 ·exact absurd rfl h
 ·rfl
theorem rest_drop {o:L8}{p:Nat}(h:p=if kindOf o=0 then 0 else 1):o.drop p=restOf o:=by
 subst h;unfold restOf;split<;>rfl
set_option maxHeartbeats 1000000 in
theorem heard_ok {N b:Nat}{o:L8}{K Q E}(hN:o.length+6≤N)(hb:3≤b∧b≤6)(ho:o.length≤100000)(hn:(∀ts,restOf o=enc (.l ts)→rowsF b (kindOf o) ts=none)→Q .none K)
  (hq:∀ts r,restOf o=enc (.l ts)→rowsF b (kindOf o) ts=some r→Q (RcU r) K):zF code N 45 [.bytes o,.int b] K Q E:=by
 obtain ⟨m,rfl,hm⟩:=fuel 4 (show o.length+2+4≤N from hN)
 have rows:∀{p:Nat},p=(if kindOf o=0 then 0 else 1)→p≤o.length→zF code (m+3) 44 [.bytes o,.int p,.int 4] K
   (fun v K=>zSs (zch (m+3)) (c__law_heard_receipt.body.drop 2) [.val (.bytes o),.val (.int b),.val (.int (kindOf o)),.val v,.unb,.unb,.unb,.unb,.unb,.unb,.unb] K (retZ Q) (errZ E)) E:=fun {p} hp hpo=>by
  have e:=rest_drop hp
  refine law_list_ok (c:=4) (by lia) ho hpo (fun h=>?_) fun ts h4 h=>?_
  ·refine hn fun ts ht=>rowsF_len fun z=>h ts z (e.trans ht)
  ·rw [e] at h
   have hl:(enc (.l ts)).length≤100000:=by rw [←h,←e,List.length_drop];exact Nat.le_trans (Nat.sub_le _ _) ho
   exact heard_rows hb h4 hl (fun z=>hn fun ts' h'=>by
    have:=enc_inj (.l ts) (.l ts') _ hl (List.prefix_refl _) (by rw [←h,h'];exact List.prefix_refl _)
    cases this;exact z) fun r hr=>hq ts r h hr
 have main:∀{k:Nat},k=kindOf o→zSs (zch (m+3)) (c__law_heard_receipt.body.drop 1) [.val (.bytes o),.val (.int b),.val (.int k),.unb,.unb,.unb,.unb,.unb,.unb,.unb,.unb] K (retZ Q) (errZ E):=fun {k} hk=>by
  subst hk
  refine zif (fun h=>?_) fun h=>?_
  ·have h:kindOf o≠0:=fun z=>by rw [z] at h;exact absurd h (by decide)
   refine rows (p:=1) (if_neg h).symm ?_
   cases o with
   |nil=>exact absurd rfl h
   |cons=>exact Nat.succ_le_succ (Nat.zero_le _)
  ·exact rows (p:=0) (if_pos (Decidable.byContradiction fun z=>h (Int.ofNat_lt.mpr (Nat.pos_of_ne_zero z)))).symm (Nat.zero_le _)
 refine zo rfl rfl (slT 1 ho rfl (zin rfl (fun h=>⟨⟨by decide,Int.ofNat_lt.mpr (kind_1 h).1,l24 ho⟩,?_⟩) fun h=>?_))
 ·exact main (k:=(o.getD 0 0).toNat) (kind_1 h).2
 ·exact main (k:=0) (kind_0 h)
end Internal
end
section
namespace Internal
set_option maxHeartbeats 1000000 in
theorem read_log_ok {n:Nat}{t:It}{K Q E}(hl:(enc t).length≤100000)(he:logF t=none→E 1 K)(q:∀g,logF t=some g→Q (LgO g) K):zF code (n+4) 17 [itU t] K Q E:=by
 cases t with
 |b l=>exact zo rfl rfl (he rfl)
 |l us=>
 have lus:us.length≤100000:=Nat.le_trans (encs_len us) (enc_l hl)
 refine zo rfl rfl ⟨by rw [itUs_len];exact l6 lus,zif (fun h=>he (log_no3 fun z=>h (by rw [itUs_len,z];rfl))) fun h=>?_⟩
 have h:us.length=3:=Decidable.byContradiction fun z=>h fun y=>z (by rw [itUs_len] at y;exact Int.ofNat.inj y)
 obtain ⟨u0,u1,u2,rfl⟩:=three' h
 cases u1 with
 |b l=>exact he rfl
 |l tps=>
 cases u2 with
 |l l=>exact he rfl
 |b d=>
 have m0:=enc_row (t:=u0) hl (.head _)
 have m1:=enc_row (t:=.l tps) hl (.tail _ (.head _))
 have tlen:tps.length≤100000:=Nat.le_trans (encs_len tps) (enc_l m1)
 have tl:(itUs tps).length≤1000000:=by rw [itUs_len];exact l6 tlen
 refine ⟨tl,zif (fun h'=>he (log_no (.inr (.inr (.inl ?_))))) fun h'=>?_⟩
 ·rw [itUs_len] at h';exact Nat.not_le_of_gt (Int.ofNat_lt.mp h')
 have h4:tps.length≤4:=Nat.le_of_not_lt fun z=>h' (by rw [itUs_len];exact Int.ofNat_lt.mpr z)
 refine read_fix_it (k:=20) rfl (by decide) m0 (fun z=>he (log_no (.inl z))) fun home hf=>⟨tl,?_⟩
 refine zclF (f:=fixF 32) (fun x:Nat=>U.int (x:Int)) tps (fun ts ha=>q ⟨home,ts,d⟩ ?_) (fun z=>he (log_no (.inr (.inl z)))) fun x mx acc k kn kb=>read_fix_it (k:=32) rfl (by decide) (enc_row m1 mx) kb kn
 show logG _ _ _=_
 unfold logG;rw [if_pos h4,hf,ha];rfl
theorem read_bloom_ok {n b:Nat}{t:It}{K Q E}(hb:3≤b∧b≤6)(hl:(enc t).length≤100000)(he:fixF (2^b/8) t=none→E 1 K)(q:∀x,fixF (2^b/8) t=some x→Q (.int x) K):zF code (n+1) 18 [itU t,.int b] K Q E:=by
 have ⟨_,_,h64⟩:=bits_f hb
 have h8:2^b/8*8=2^b:=by rcases bits4 hb with rfl |rfl |rfl |rfl<;>rfl
 cases t with
 |l ts=>exact zo rfl rfl (he rfl)
 |b l=>
  have lb:=enc_b hl
  refine zo rfl rfl ⟨l24 lb,shlN 1 b rfl rfl (by decide) (Nat.le_trans hb.2 (by decide)) (zif (fun h=>he (if_neg fun z=>h ?_)) fun h=>⟨l6 lb,q _ (if_pos ?_)⟩)⟩
  ·rw [Nat.one_mul,←h8,z];rfl
  ·have h:(l.length*8:Nat)=1*2^b:=Decidable.byContradiction fun z=>h fun y=>z (Int.ofNat.inj y)
   rw [Nat.one_mul,←h8] at h
   exact Nat.eq_of_mul_eq_mul_right (by decide) h
set_option maxHeartbeats 2000000 in
theorem read_rows {n b k:Nat}{o:L8}{t:It}{K Q E}(hb:3≤b∧b≤6)(hl:(enc t).length≤100000)(he:(∀ts,t=.l ts→rowsF b k ts=none)→E 1 K)(hq:∀ts r,t=.l ts→rowsF b k ts=some r→Q (RcO r.kind r.good r.used r.bloom r.logs) K) :
  zSs (zch (n+4)) (c_read_receipt.body.drop 2) [.val (.bytes o),.val (.int b),.val (.int k),.val (itU t),.unb,.unb] K (retZ Q) (errZ E):=by
 cases t with
 |b l=>exact he nofun
 |l ts=>
 have lts:ts.length≤100000:=Nat.le_trans (encs_len ts) (enc_l hl)
 have one:rowsF b k ts=none→E 1 K:=fun h=>he fun ts' e=>by cases e;exact h
 refine ⟨by rw [itUs_len];exact l6 lts,zif (fun h=>one (rowsF_len fun z=>h (by rw [itUs_len,z];rfl))) fun h=>?_⟩
 have h4:ts.length=4:=Decidable.byContradiction fun z=>h fun y=>z (by rw [itUs_len] at y;exact Int.ofNat.inj y)
 obtain ⟨t0,t1,t2,t3,rfl⟩:=four h4
 cases t3 with
 |b l=>exact one rfl
 |l ls=>
 have l0:=enc_row (t:=t0) hl (.head _)
 have l1:=enc_row (t:=t1) hl (.tail _ (.head _))
 have l2:=enc_row (t:=t2) hl (.tail _ (.tail _ (.head _)))
 have l3:=enc_row (t:=.l ls) hl (.tail _ (.tail _ (.tail _ (.head _))))
 refine read_num_it (B:=2) rfl (by decide) l0 (fun z=>one (by show obnd (numF 2 t0) _=none;rw [z];rfl)) fun w h0=>?_
 refine read_num_it (B:=2^64) rfl (by decide +kernel) l1 (fun z=>one (obnd_none fun ω=>by rw [z];rfl)) fun u h1=>?_
 have lls:(itUs ls).length≤1000000:=by rw [itUs_len];exact l6 (Nat.le_trans (encs_len ls) (enc_l l3))
 have tail:∀{g:Bool},g=decide ((w:Int)=1)→zF code (n+4) 18 [itU t2,.int b] K (fun bl K=>zIter (itU (.l ls)) fun items=>zCL (fun item acc K kont=>bindZ 1 false item fun ws=>zF code (n+4) 17 [item] K (fun r K=>kont (acc++[r]) K) E) items [] K fun rs K=>Q (.obj 3 [.int k,.bool g,.int u,bl,.list rs]) K) E:=fun {g} hg=>by
  subst hg
  refine read_bloom_ok hb l2 (fun z=>one (obnd_none fun ω=>obnd_none fun ω=>by rw [z];rfl)) fun bl h2=>⟨lls,?_⟩
  refine zclF (f:=logF) LgO ls (fun gs ha=>hq _ ⟨k,decide ((w:Int)=1),u,bl,gs⟩ rfl ?_) (fun z=>one (obnd_none fun ω=>obnd_none fun ω=>obnd_none fun ω=>by rw [z];rfl)) fun x mx acc kk kn kb=>read_log_ok (enc_row l3 mx) kb kn
  show obnd (numF 2 t0) _=_
  rw [h0,h1,h2,ha];rfl
 exact zif (fun z=>tail (decide_eq_true z).symm) fun z=>tail (decide_eq_false z).symm
end Internal
end
section
namespace Internal
theorem rest_len {o:L8}(ho:o.length≤100000):(restOf o).length≤100000:=by
 unfold restOf;split
 ·exact ho
 ·rw [List.length_drop];exact Nat.le_trans (Nat.sub_le _ _) ho
theorem dep_rows {b:Nat}{o:L8}{ts:List It}(hb:3≤b∧b≤6)(h:¬dep (.l ts)≤60):rowsF b (kindOf o) ts=none:=by
 cases hr:rowsF b (kindOf o) ts with
 |none=>rfl
 |some r=>
  have ⟨e,_,_⟩:=rowsF_some hb (kind_le o) hr
  have d:=dep_RcT b r
  rw [e] at d
  exact absurd (Nat.le_trans d (by decide)) h
theorem enc_back {t t':It}{o:L8}(ho:o.length≤100000)(ht:enc t=o)(h:o=enc t'):t=t':=by
 subst ht
 exact enc_inj t t' _ ho (List.prefix_refl _) (by rw [h];exact List.prefix_refl _)
theorem rr_rows {m b:Nat}{o p:L8}{K Q E}(hp:p=restOf o)(hm:65≤m)(hb:3≤b∧b≤6)(ho:o.length≤100000)(he:(∀ts,restOf o=enc (.l ts)→rowsF b (kindOf o) ts=none)→E 1 K)
  (hq:∀ts r,restOf o=enc (.l ts)→rowsF b (kindOf o) ts=some r→Q (RcO r.kind r.good r.used r.bloom r.logs) K):zF code (m+4) 9 [.bytes p] K
   (fun v K=>zSs (zch (m+4)) (c_read_receipt.body.drop 2) [.val (.bytes o),.val (.int b),.val (.int (kindOf o)),.val v,.unb,.unb] K (retZ Q) (errZ E)) E:=by
 have hro:=rest_len ho
 subst hp
 refine decoded_ok (Nat.le_trans (by decide) (Nat.add_le_add_right hm 4)) hro (fun h=>he fun ts ht=>dep_rows hb (h (.l ts) ht.symm)) fun t ht hd=>?_
 have hl:(enc t).length≤100000:=by rw [ht];exact hro
 exact read_rows hb hl (fun z=>he fun ts' h'=>z ts' (enc_back hro ht h')) fun ts r e hr=>hq ts r (by rw [←ht,e]) hr
theorem rr_main {m b k:Nat}{o:L8}{K Q E}(hk:k=kindOf o)(hm:65≤m)(hb:3≤b∧b≤6)(ho:o.length≤100000)(he:(∀ts,restOf o=enc (.l ts)→rowsF b (kindOf o) ts=none)→E 1 K)
  (hq:∀ts r,restOf o=enc (.l ts)→rowsF b (kindOf o) ts=some r→Q (RcO r.kind r.good r.used r.bloom r.logs) K) :
  zSs (zch (m+4)) (c_read_receipt.body.drop 1) [.val (.bytes o),.val (.int b),.val (.int k),.unb,.unb,.unb] K (retZ Q) (errZ E):=by
 subst hk
 refine zif (fun h=>?_) fun h=>?_
 ·have h:kindOf o≠0:=fun z=>by rw [z] at h;exact absurd h (by decide)
  exact slD 1 ho rfl (rr_rows (if_neg h).symm hm hb ho he hq)
 ·exact rr_rows (if_pos (Decidable.byContradiction fun z=>h (Int.ofNat_lt.mpr (Nat.pos_of_ne_zero z)))).symm hm hb ho he hq
end Internal
end
section
namespace Internal
theorem read_receipt_ok {N b:Nat}{o:L8}{K Q E}(hN:70≤N)(hb:3≤b∧b≤6)(ho:o.length≤100000)(he:(∀ts,restOf o=enc (.l ts)→rowsF b (kindOf o) ts=none)→E 1 K)
  (hq:∀ts r,restOf o=enc (.l ts)→rowsF b (kindOf o) ts=some r→Q (RcO r.kind r.good r.used r.bloom r.logs) K):zF code N 19 [.bytes o,.int b] K Q E:=by
 obtain ⟨M,rfl,hM⟩:=fuel 1 (show 69+1≤N from hN)
 have main:∀{w:Int},w=(kindOf o:Int)→zSs (zch M) (c_read_receipt.body.drop 1) [.val (.bytes o),.val (.int b),.val (.int w),.unb,.unb,.unb] K (retZ Q) (errZ E):=fun hw=>by
  obtain ⟨m,rfl,hm⟩:=fuel 4 (show 65+4≤M from hM)
  subst hw;exact rr_main rfl hm hb ho he hq
 refine zo rfl rfl (slT 1 ho rfl (zin rfl (fun h=>⟨⟨by decide,Int.ofNat_lt.mpr (kind_1 h).1,l24 ho⟩,?_⟩) fun h=>?_))
 ·exact main (congrArg Nat.cast (kind_1 h).2)
 ·have e:(0:Int)=(kindOf o:Int):=congrArg Nat.cast (kind_0 h)
  show cond false _ _
  rw [cond_false]
  refine (?_:∀w:Int,w=(kindOf o:Int)→zX (zch M) (.cst (.int w)) _ _ _ _) 0 e
  exact fun w hw=>main hw
end Internal
end
section
namespace Internal
theorem logs_len {b:Nat}{o:L8}{ts:List It}{r:Rc}(hb:3≤b∧b≤6)(ho:o.length≤100000)(h:restOf o=enc (.l ts))(hr:rowsF b (kindOf o) ts=some r):r.logs.length≤100000:=by
 have ⟨e,_,_⟩:=rowsF_some hb (kind_le o) hr
 have hl:(enc (RcT b r)).length≤100000:=by rw [e,←h];exact rest_len ho
 have:=Nat.le_trans (encs_len _) (enc_l (enc_row (t:=.l (r.logs.map LgT)) hl (.tail _ (.tail _ (.tail _ (.head _))))))
 rw [List.length_map] at this
 exact this
end Internal
end
section
namespace Internal
theorem told_ok {N b:Nat}{o:L8}{K Q E}(hN:71≤N)(hb:3≤b∧b≤6)(ho:o.length≤100000)(hn:(∀ts,restOf o=enc (.l ts)→rowsF b (kindOf o) ts=none)→Q .none K)
  (hq:∀ts r,restOf o=enc (.l ts)→rowsF b (kindOf o) ts=some r→Q (RcU r) K):zF code N 47 [.bytes o,.int b] K Q E:=by
 obtain ⟨M,rfl,hM⟩:=fuel 1 (show 70+1≤N from hN)
 refine zo rfl rfl (read_receipt_ok hM hb ho (fun h=>hn h) fun ts r h hr=>?_)
 have ll:=logs_len hb ho h hr
 refine zat _ rfl ⟨by rw [List.length_map];exact l6 ll,?_⟩
 refine zcl LgO LgU r.logs (fun x mx acc k kk=>?_) ?_
 ·refine zat _ rfl ?_
  refine zat _ rfl ?_
  exact zat _ rfl kk
 exact zat _ rfl (zat _ rfl (zat _ rfl (zat _ rfl (hq ts r h hr))))
end Internal
end
section
namespace Internal
theorem hdS {low n:Nat}(h:n<56):(hdB low n).length≤1:=by unfold hdB;rw [if_pos h];exact Nat.le_refl _
theorem hdK {low n k:Nat}(h:n<256^k):(hdB low n).length≤k+1:=by
 unfold hdB;split
 ·exact Nat.succ_le_succ (Nat.zero_le _)
 ·exact Nat.succ_le_succ (fig_len h)
theorem eb_le {l:L8}{m k:Nat}(h:l.length≤m)(hk:∀low,(hdB low l.length).length≤k):(enc (.b l)).length≤k+m:=by
 rw [enc];split
 ·exact Nat.le_trans h (Nat.le_add_left _ _)
 ·rw [List.length_append];exact Nat.add_le_add (hk _) h
theorem el_le {ts:List It}{m k:Nat}(h:(encs ts).length≤m)(hk:∀low,(hdB low (encs ts).length).length≤k):(enc (.l ts)).length≤k+m:=by
 rw [enc,List.length_append];exact Nat.add_le_add (hk _) h
theorem es_le {t:It}{ts:List It}{x y:Nat}(h:(enc t).length≤x)(k:(encs ts).length≤y):(encs (t::ts)).length≤x+y:=by
 rw [encs,List.length_append];exact Nat.add_le_add h k
theorem es_0:(encs []).length≤0:=by rw [encs];exact Nat.le_refl _
theorem em_le {α:Type}{f:α→It}{k:Nat}:∀{l:List α},(∀a∈l,(enc (f a)).length≤k)→(encs (l.map f)).length≤l.length*k
 | [],_=>Nat.le_trans es_0 (Nat.zero_le _)
 |_::r,h=>Nat.le_trans (es_le (h _ (.head _)) (em_le fun b m=>h b (.tail _ m))) (Nat.le_of_eq (by rw [List.length_cons,Nat.succ_mul,Nat.add_comm]))
theorem LgT_len {g:Lg}(h:SmG g):(enc (LgT g)).length≤215:=by
 have a0:∀{k x:Nat},k<56→(enc (.b (beN k x))).length≤1+k:=fun {k x} hk=>eb_le (Nat.le_of_eq (beN_ln k x)) fun ω=>hdS (by rw [beN_ln];exact hk)
 have a3:(encs (g.topics.map fun t=>It.b (beN 32 t))).length≤132:=Nat.le_trans (em_le fun t ω=>a0 (by decide)) (Nat.mul_le_mul_right 33 h.1.2.1)
 have a4:=el_le a3 fun ω=>hdK (k:=1) (Nat.lt_of_le_of_lt a3 (by decide))
 have a5:(enc (.b g.data)).length≤2+56:=eb_le h.2 fun ω=>hdK (k:=1) (Nat.lt_of_le_of_lt h.2 (by decide))
 have a6:=es_le (a0 (k:=20) (x:=g.home) (by decide)) (es_le a4 (es_le a5 es_0))
 exact el_le a6 fun ω=>hdK (k:=1) (Nat.lt_of_le_of_lt a6 (by decide))
theorem RcB_len {b:Nat}{r:Rc}(hb:3≤b∧b≤6)(ok:RcOK b r)(h3:r.logs.length≤3)(hs:∀g∈r.logs,SmG g):0<(RcB b r).length∧(RcB b r).length≤672:=by
 have ⟨f1,_,_⟩:=bits_f hb
 have a1:(enc (.b (if r.good then [1] else []))).length≤1+1:=by cases r.good<;>exact eb_le (by decide) fun ω=>hdS (by decide)
 have l2:(fig r.used).length≤8:=fig_len (Nat.lt_of_lt_of_le ok.2.1 (by decide))
 have a2:=eb_le l2 fun ω=>hdS (Nat.lt_of_le_of_lt l2 (by decide:8<56))
 have l3:(beN (2^b/8) r.bloom).length≤8:=by rw [beN_ln];exact f1
 have a3:=eb_le l3 fun ω=>hdS (Nat.lt_of_le_of_lt l3 (by decide:8<56))
 have a4:(encs (r.logs.map LgT)).length≤645:=Nat.le_trans (em_le fun g m=>LgT_len (hs g m)) (Nat.mul_le_mul_right 215 h3)
 have a5:=el_le a4 fun ω=>hdK (k:=2) (Nat.lt_of_le_of_lt a4 (by decide))
 have a6:=es_le a1 (es_le a2 (es_le a3 (es_le a5 es_0)))
 have a7:(enc (RcT b r)).length≤671:=el_le a6 fun ω=>hdK (k:=2) (Nat.lt_of_le_of_lt a6 (by decide))
 have a8:(kindB r.kind).length≤1:=by
  unfold kindB;split
  ·exact Nat.zero_le _
  ·exact Nat.le_refl _
 rw [RcB,List.length_append]
 exact ⟨Nat.lt_of_lt_of_le (enc_pos _) (Nat.le_add_left _ _),Nat.add_le_add a8 a7⟩
set_option tactic.hygienic true in
theorem hd_ne {n c:Nat}{q:L8}(h:n<256^8)(hc:c<192):(hdB 192 n++q).take 1≠[UInt8.ofNat c]:=by
 have ne:∀{m:Nat} {x:L8},192≤m→m<256→(UInt8.ofNat m::x).take 1≠[UInt8.ofNat c]:=fun {m x} h1 h2 z=>by
  have:=congrArg UInt8.toNat (List.cons.inj z).1
  rw [u8lt h2,u8lt (Nat.lt_trans hc (by decide))] at this
  exact absurd hc (Nat.not_lt_of_le (this▸h1))
 unfold hdB;split
 ·rename_i h1
  exact ne (Nat.le_add_right _ _) (Nat.lt_trans (Nat.add_lt_add_left h1 192) (by decide))
 ·exact ne (Nat.le_trans (by decide) (Nat.le_add_right _ _)) (Nat.lt_of_le_of_lt (Nat.add_le_add_left (fig_len h) _) (by decide))
theorem kind_enc {ts:List It}(h:(enc (.l ts)).length≤100000):kindOf (enc (.l ts))=0:=by
 have ne:∀c,c<192→(enc (.l ts)).take 1≠[UInt8.ofNat c]:=fun c hc=>by
  have:=enc_l h
  show (enc (.l ts)).take 1≠_
  unfold enc;exact hd_ne (Nat.lt_of_le_of_lt this (by decide)) hc
 exact (if_neg (ne 1 (by decide))).trans (if_neg (ne 2 (by decide)))
theorem kind_RcB {b:Nat}{r:Rc}(hk:r.kind≤2)(h:(RcB b r).length≤100000):kindOf (RcB b r)=r.kind∧restOf (RcB b r)=enc (RcT b r):=by
 have he:(enc (RcT b r)).length≤100000:=by rw [RcB,List.length_append] at h;exact Nat.le_trans (Nat.le_add_left _ _) h
 have e0:kindOf (enc (RcT b r))=0:=kind_enc he
 have e1:∀l:L8,kindOf (1::l)=1:=fun l=>if_pos rfl
 have e2:∀l:L8,kindOf (2::l)=2:=fun l=>(if_neg (by decide:¬([2]:L8)=[1])).trans (if_pos rfl)
 unfold RcB restOf
 generalize r.kind=k at hk
 match k,hk with
 |0,_=>exact ⟨e0,if_pos e0⟩
 |1,_=>exact ⟨e1 _,if_neg (by show kindOf (1::_)≠0;rw [e1];decide)⟩
 |2,_=>exact ⟨e2 _,if_neg (by show kindOf (2::_)≠0;rw [e2];decide)⟩
theorem rowsF_RcB {b:Nat}{r:Rc}(hb:3≤b∧b≤6)(ok:RcOK b r){ts:List It}(h:(RcB b r).length≤100000)(e:restOf (RcB b r)=enc (.l ts)):rowsF b (kindOf (RcB b r)) ts=some r:=by
 have ⟨k,q⟩:=kind_RcB ok.1 h
 have he:(enc (RcT b r)).length≤100000:=q▸rest_len h
 rw [k]
 cases enc_inj (RcT b r) (.l ts) _ he (List.prefix_refl _) (by rw [←q,e];exact List.prefix_refl _)
 exact rowsF_RcT hb ok
end Internal
end
section
namespace Internal
theorem bth {N b:Nat}{o:L8}{K}{Q:U→U→KS→Prop}{E}(hN:o.length+6≤N)(hN':71≤N)(hb:3≤b∧b≤6)(ho:o.length≤100000)
  (hn:(∀ts,restOf o=enc (.l ts)→rowsF b (kindOf o) ts=none)→Q .none .none K)(hq:∀ts r,restOf o=enc (.l ts)→rowsF b (kindOf o) ts=some r→Q (RcU r) (RcU r) K) :
  zF code N 45 [.bytes o,.int b] K (fun u K=>zF code N 47 [.bytes o,.int b] K (fun v K=>Q u v K) E) E:=
 heard_ok hN hb ho (fun h=>told_ok hN' hb ho (fun ω=>hn h) fun ts r e f=>absurd ((h ts e).symm.trans f) (Option.some_ne_none r).symm) fun ts r e f=>
  told_ok hN' hb ho (fun h=>absurd ((h ts e).symm.trans f) (Option.some_ne_none r).symm) fun ts' r' e' f'=>by
   cases enc_inj (.l ts) (.l ts') _ (rest_len ho) (e▸List.prefix_refl _) (e'▸List.prefix_refl _)
   cases f.symm.trans f'
   exact hq ts r e f
theorem plains_map {α:Type}{f:α→U}{n:Nat}:∀{l:List α},(∀x,plain n (f x)=true)→plains n (l.map f)=true
 | [],_=>rfl
 |x::r,h=>Bool.and_eq_true_iff.mpr ⟨h x,plains_map h⟩
theorem plain_Rc (r:Rc):plain 32 (RcU r)=true:=Bool.and_eq_true_iff.mpr ⟨plains_map fun ω=>Bool.and_eq_true_iff.mpr ⟨plains_map fun ω=>rfl,rfl⟩,rfl⟩
theorem rc_same {r r':Rc}(h1:(r'.kind:Int)=r.kind)(h2:r'.good=r.good)(h3:(r'.used:Int)=r.used)(h4:(r'.bloom:Int)=r.bloom)(h5:r'.logs=r.logs):r'=r:=by
 cases r with |mk k g u bl ls=>
 cases r' with |mk k' g' u' bl' ls'=>
 rw [show k'=k from Int.ofNat.inj h1,show g'=g from h2,show u'=u from Int.ofNat.inj h3,show bl'=bl from Int.ofNat.inj h4,show ls'=ls from h5]
theorem rc_oct {n b:Nat}{r:Rc}{K Q E}(hb:3≤b∧b≤6)(ok:RcOK b r)(hl:(RcB b r).length≤1000)(q:Q (.bytes (RcB b r)) K) :
  zF code (n+12) 35 [RcU r] K (fun u K=>zF code (n+12) 16 [u,.int b] K Q E) E:=
 made_ok (RcB_logs hl) (octets_ok hb ok.2.2.2 (RcB_logs hl) (fun h=>absurd ⟨Int.natCast_nonneg _,Int.ofNat_le.mpr ok.1,Int.natCast_nonneg _,Int.ofNat_lt.mpr ok.2.1,Int.natCast_nonneg _,Int.ofNat_lt.mpr ok.2.2.1⟩ h) fun r' h1 h2 h3 h4 h5 ω=>by
  rw [←rc_same h1 h2.symm h3 h4 h5.symm]
  exact ⟨Nat.le_trans hl (by decide),q⟩)
set_option maxHeartbeats 1000000 in
theorem receipt_right_ok {n b:Nat}{K Q E}(hb:3≤b∧b≤6)(q:Q (.bool true) K):zF code (n+680) 50 [.well,.int b] K Q E:=by
 refine zo rfl rfl (law_receipt_ok hb fun r ok h3 hs=>?_)
 have ⟨hp,hl⟩:=RcB_len hb ok h3 hs
 have hl1:(RcB b r).length≤1000:=Nat.le_trans hl (by decide)
 have hl5:(RcB b r).length≤100000:=Nat.le_trans hl (by decide)
 have kr:=kind_RcB ok.1 hl5
 have h71:71≤n+679:=Nat.le_trans (by decide:71≤679) (Nat.le_add_left _ _)
 refine law_octets_ok hb ok hl1 (rc_oct hb ok hl1 (zf (fun h=>h rfl) ?_))
 refine bent_ok hp hl5 fun l1 h1=>bent_ok hp hl5 fun l2 h2=>?_
 refine ⟨show 3≤1000000 by decide,zforL (P:=Sl×Sl×Sl) (f:=U.bytes) (fun dn x=>[.val .well,.val (.int b),.val (RcU r),.val (.bytes (RcB b r)),x.1,x.2.1,x.2.2]) [RcB b r,l1,l2] (fun x=>?_) (fun dn o td x k e kn ω=>?_) (.unb,.unb,.unb)⟩
 ·exact told_ok h71 hb hl5 (fun h=>absurd ((h _ kr.2).symm.trans (rowsF_RcB hb ok hl5 kr.2)) (Option.some_ne_none r).symm) fun ts r' e f=>by
   cases f.symm.trans (rowsF_RcB hb ok hl5 e)
   exact zeq_same (plain_Rc r) q
 ·have ho:o.length≤673:=(List.forall_mem_cons.mpr ⟨Nat.le_succ_of_le hl,List.forall_mem_cons.mpr ⟨Nat.le_trans h1 (Nat.succ_le_succ hl),List.forall_mem_singleton.mpr (Nat.le_trans h2 (Nat.succ_le_succ hl))⟩⟩:∀o∈[RcB b r,l1,l2],o.length≤673) o (e▸List.mem_append_right _ (.head _))
  have ho5:o.length≤100000:=Nat.le_trans ho (by decide)
  refine bth (Nat.le_trans (Nat.add_le_add_right ho 6) (Nat.le_add_left _ _)) h71 hb ho5 (fun h=>?_) fun ts r' e f=>?_
  ·refine zf (fun z=>?_) (kn (.val (.bytes o),.val .none,.val .none))
   cases z
   exact absurd ((h _ kr.2).symm.trans (rowsF_RcB hb ok hl5 kr.2)) (Option.some_ne_none r).symm
  ·have ⟨t,ok',hk⟩:=rowsF_some hb (kind_le o) f
   have eo:RcB b r'=o:=by rw [RcB,t,hk,←e,kind_rest]
   refine zeq_same (plain_Rc r') (rc_oct hb ok' (eo▸Nat.le_trans ho (by decide)) ?_)
   rw [eo]
   exact zf (fun h=>h rfl) (kn (.val (.bytes o),.val (RcU r'),.val (RcU r')))
end Internal
end
section
namespace Internal
theorem zforA {α R:Type}{f:α→U}{step:U→List Sl→KS→ZS→Prop}{Q:ZS}{K:KS}(P:α→Prop)(S:R→List Sl):∀(l:List α),((∀x∈l,P x)→∀p,Q .next (S p) K)→
  (∀x∈l,∀p k,(P x→∀p',k .next (S p') K∧k .cont (S p') K)→step (f x) (S p) K k)→∀p,zFor step (l.map f) (S p) K Q
 | [],he,_,p=>he (fun ω h=>absurd h List.not_mem_nil) p
 |x::r,he,hs,p=>hs x (.head _) p _ fun hx p'=>and_self_iff.mpr (zforA P S r (fun h=>he (List.forall_mem_cons.mpr ⟨hx,h⟩)) (fun y m=>hs y (.tail _ m)) p')
noncomputable def WdT (i v d m:Nat):It:=.l [.b (fig i),.b (fig v),.b (beN 20 d),.b (fig m)]
theorem WdT_len {i v d m:Nat}(h1:i<2^64)(h2:v<2^64)(h3:m<2^64):(enc (WdT i v d m)).length≤100:=by
 have fl:∀{k},k<2^64→(enc (.b (fig k))).length≤1+8:=fun {k} h=>
  have l:(fig k).length≤8:=fig_len (Nat.lt_of_lt_of_le h (by decide))
  eb_le l fun ω=>hdS (Nat.lt_of_le_of_lt l (by decide:8<56))
 have a:(enc (.b (beN 20 d))).length≤1+20:=eb_le (Nat.le_of_eq (beN_ln 20 d)) fun ω=>hdS (by rw [beN_ln];decide)
 have s:=es_le (fl h1) (es_le (fl h2) (es_le a (es_le (fl h3) es_0)))
 exact Nat.le_trans (el_le s fun ω=>hdS (Nat.lt_of_le_of_lt s (by decide))) (by decide)
noncomputable def Wide (i v d m:Int):Prop:=(0≤i∧i<2^64)∧(0≤v∧v<2^64)∧(0≤m∧m<2^64)∧0≤d∧d<2^160
set_option maxHeartbeats 1000000 in
theorem withdrawal_ok {n:Nat}{i v d m:Int}{K Q E}(he:¬Wide i v d m→E 1 K)(q:Wide i v d m→∀i' v' d' m':Nat,i=i'→v=v'→d=d'→m=m'→Q (.bytes (enc (WdT i' v' d' m'))) K) :
  zF code (n+7) 26 [.obj 6 [.int i,.int v,.int d,.int m]] K Q E:=by
 refine zo rfl rfl (zat _ rfl (zat _ rfl (zat _ rfl ⟨show 3≤1000000 by decide,?_⟩)))
 refine zforA (f:=U.int) (fun x=>0≤x∧x<2^64) (fun p=>[.val (.obj 6 [.int i,.int v,.int d,.int m]),p,.unb]) [i,v,m] (fun h p=>?_) (fun x mx p k kn=>?_) .unb
 ·have bad:¬(0≤d∧d<2^160)→E 1 K:=fun z=>he fun w=>z w.2.2.2
  refine zat _ rfl (Decidable.byCases (fun h1:0≤d=>zt h1 (Decidable.byCases (fun h2:d<2^160=>zt h2 ?_) fun h2=>zf h2 (bad fun z=>h2 z.2))) fun h1=>zf h1 (bad fun z=>h1 z.1))
  have g:∀{x:Int} {y:Nat},0≤x→x<y→∃k:Nat,x=k∧k<y:=fun {x y} h k=>⟨x.toNat,(Int.toNat_of_nonneg h).symm,Int.ofNat_lt.mp ((Int.toNat_of_nonneg h).symm▸k)⟩
  have f:∀x∈[i,v,m],∃k:Nat,x=k∧k<2^64:=fun x mx=>g (h x mx).1 (h x mx).2
  have q:=q ⟨h i (.head _),h v (.tail _ (.head _)),h m (.tail _ (.tail _ (.head _))),h1,h2⟩
  obtain ⟨i,rfl,li⟩:=f i (.head _)
  obtain ⟨v,rfl,lv⟩:=f v (.tail _ (.head _))
  obtain ⟨m,rfl,lm⟩:=f m (.tail _ (.tail _ (.head _)))
  obtain ⟨d,rfl,ld⟩:=g (y:=2^160) h1 h2
  have l6:∀{x:Nat},x<2^64→x<2^256:=fun h=>Nat.lt_trans h (by decide)
  refine zat _ rfl (number_ok (l6 li) (zat _ rfl (number_ok (l6 lv) ?_)))
  refine zat _ rfl (word20_ok ld ?_)
  refine zat _ rfl (number_ok (l6 lm) (gd_ (show 2+2≤1000 by decide) ?_))
  have dw:dep (WdT i v d m)=1:=rfl
  exact encoded_ok (t:=WdT i v d m) rfl (dw▸show 1+4≤n+6 from Nat.le_add_left 5 (n+1)) (dw▸show 1≤60 by decide) (Nat.le_trans (WdT_len li lv lm) (by decide)) (q i v d m rfl rfl rfl rfl)
 ·have bad:¬(0≤x∧x<2^64)→E 1 K:=fun z=>he fun w=>z ((List.forall_mem_cons.mpr ⟨w.1,List.forall_mem_cons.mpr ⟨w.2.1,List.forall_mem_singleton.mpr w.2.2.1⟩⟩:∀x∈[i,v,m],0≤x∧x<2^64) x mx)
  exact Decidable.byCases (fun h1:0≤x=>zt h1 (Decidable.byCases (fun h2:x<2^64=>zt h2 (kn ⟨h1,h2⟩ _).1) fun h2=>zf h2 (bad fun z=>h2 z.2))) fun h1=>zf h1 (bad fun z=>h1 z.1)
theorem withdrawal_n {n i v d m:Nat}{K Q E}(hi:i<2^64)(hv:v<2^64)(hd:d<2^160)(hm:m<2^64)(q:Q (.bytes (enc (WdT i v d m))) K):zF code (n+7) 26 [.obj 6 [.int i,.int v,.int d,.int m]] K Q E:=
 have w:∀{x:Nat} {B:Nat},x<B→(0:Int)≤x∧(x:Int)<B:=fun {x B} h=>⟨Int.natCast_nonneg x,Int.ofNat_lt.mpr h⟩
 withdrawal_ok (fun h=>absurd ⟨w hi,w hv,w hm,w hd⟩ h) fun ω i' v' d' m' e1 e2 e3 e4=>by
  cases Int.ofNat.inj e1;cases Int.ofNat.inj e2;cases Int.ofNat.inj e3;cases Int.ofNat.inj e4
  exact q
end Internal
end
section
namespace Internal
theorem zxs1 {ch:CZ}{x:X}{ρ:List Sl}{K:KS}{Q:List U→KS→Prop}{E:ZE}(h:zX ch x ρ K (fun u K=>Q [u] K) E):zXs ch [x] ρ K Q E:=h
set_option maxHeartbeats 1000000 in
theorem withdrawal_right_ok {n:Nat}{K Q E}(q:Q (.bool true) K):zF code (n+9) 53 [.well] K Q E:=by
 have l6:∀{x:Nat},x<2^64→x<2^256:=fun h=>Nat.lt_trans h (by decide)
 refine zo rfl rfl (short_ok (pick_ok (by decide) (by decide) fun x1 m1=>short_ok (pick_ok (by decide) (by decide) fun x2 m2=>homes_ok (pick_ok (by decide) (by decide) fun x3 m3=>short_ok (pick_ok (by decide) (by decide) fun x4 m4=>?_)))))
 have len:(enc (WdT x1 x2 x3 x4)).length≤100:=WdT_len (shorts_lt m1) (shorts_lt m2) (shorts_lt m4)
 refine figures_m (l6 (shorts_lt m1)) ?_
 refine figures_m (l6 (shorts_lt m2)) ?_
 refine figures_k (c:=20) (by decide) ?_
 refine zxs1 ?_
 refine figures_m (l6 (shorts_lt m4)) ?_
 have dw:dep (WdT x1 x2 x3 x4)=1:=rfl
 refine laid_it (t:=WdT x1 x2 x3 x4) rfl (dw▸show 1+2≤n+8 from Nat.le_add_left 3 (n+5)) (Nat.le_trans len (by decide)) ?_
 refine withdrawal_n (shorts_lt m1) (shorts_lt m2) (homes_lt m3) (shorts_lt m4) ?_
 refine zf (fun h=>h rfl) (powN 2 64 rfl rfl (by decide) (by decide) (powN 2 160 rfl rfl (by decide) (by decide) ⟨show 4≤1000000 by decide,?_⟩))
 refine zforA (α:=Int×Int×Int×Int) (f:=fun a=>.obj 6 [.int a.1,.int a.2.1,.int a.2.2.1,.int a.2.2.2]) (fun ω=>True) (fun p=>[.val .well,.val (.list [.int x1,.int x2,.int x3,.int x4]),.val (.bytes (enc (WdT x1 x2 x3 x4))),p])
  [(-1,0,0,0),(0,(2^64:Nat),0,0),(0,0,(2^160:Nat),0),(0,0,0,-1)] (fun ω p=>q) (fun a ma p k kn=>?_) .unb
 have bad:¬Wide a.1 a.2.1 a.2.2.1 a.2.2.2:=(List.forall_mem_cons.mpr ⟨fun w=>absurd w.1.1 (by decide),List.forall_mem_cons.mpr ⟨fun w=>absurd w.2.1.2 (by decide),List.forall_mem_cons.mpr ⟨fun w=>absurd w.2.2.2.2 (by decide),List.forall_mem_singleton.mpr fun w=>absurd w.2.2.1.1 (by decide)⟩⟩⟩ :
  ∀a∈[((-1,0,0,0):Int×Int×Int×Int),(0,(2^64:Nat),0,0),(0,0,(2^160:Nat),0),(0,0,0,-1)],¬Wide a.1 a.2.1 a.2.2.1 a.2.2.2) a ma
 exact withdrawal_ok (fun ω=>(kn trivial _).2) fun w=>absurd w bad
end Internal
end
section
namespace Internal
inductive F where |parent |ben |sroot |troot |rroot |wroot |bloom |number |limit |used |time |extra |random |fee
noncomputable def F.name:F→String:=F.rec "parent" "beneficiary" "state_root" "transactions_root" "receipts_root" "withdrawals_root" "bloom" "number" "limit" "used" "time" "extra" "random" "base_fee"
noncomputable def allF':List F:=[.parent,.ben,.sroot,.troot,.rroot,.wroot,.bloom,.number,.limit,.used,.time,.extra,.random,.fee]
noncomputable abbrev Hg:=F→U
noncomputable def HdO (g:Hg):U:=.obj 5 [g .parent,g .ben,g .sroot,g .troot,g .rroot,g .wroot,g .bloom,g .number,g .limit,g .used,g .time,g .extra,g .random,g .fee]
noncomputable def HasH (ks:List String)(us:List U)(g:Hg):Prop:=∀f:F,getU f.name ks us fun w=>w=g f
theorem HasH.get {ks us}{g:Hg}(H:HasH ks us g)(f:F){Q:U→Prop}(q:Q (g f)):getU f.name ks us Q:=getU_imp (fun ω e=>e▸q) (H f)
theorem slN6 {Q:U→Prop}(q:Q (.tup ([F.sroot,.troot,.rroot,.wroot].map fun f=>.str f.name))):zSlc (some 2) (some 6) (.tup (namesS.map U.str)) Q:=by
 unfold zSlc;exact .mk (gd_ ⟨rfl,.inr rfl,rfl⟩ q)
theorem slN5 {Q:U→Prop}(q:Q (.tup ([F.sroot,.troot,.rroot].map fun f=>.str f.name))):zSlc (some 2) (some 5) (.tup (namesS.map U.str)) Q:=by
 unfold zSlc;exact .mk (gd_ ⟨rfl,.inl rfl,rfl⟩ q)
set_option maxHeartbeats 1000000 in
theorem made_head_ok {n:Nat}{ks us}{g:Hg}{K Q E}(H:HasH ks us g)(q:Q (HdO g) K):zF code (n+1) 36 [.dict ks us] K Q E:=by
 refine zo rfl rfl (H.get .number ?_)
 refine H.get .time ?_
 refine H.get .ben ?_
 refine H.get .fee ?_
 refine H.get .limit ?_
 refine H.get .random ?_
 refine slN6 ⟨show 4≤1000000 by decide,?_⟩
 refine zcl (fun f:F=>U.str f.name) g [F.sroot,.troot,.rroot,.wroot] (fun f mf acc k q=>?_) ?_
 ·exact H.get f q
 refine H.get .parent ?_
 refine H.get .used ?_
 refine H.get .extra ?_
 refine H.get .bloom ?_
 exact q
end Internal
end
section
namespace Internal
structure Hv where
 parent:L8
 sroot:L8
 troot:L8
 rroot:L8
 wroot:L8
 extra:L8
 ben:Int
 bloom:Int
 number:Int
 limit:Int
 used:Int
 time:Int
 random:Int
 fee:Int
noncomputable def Hv.val (h:Hv):Hg:=F.rec (.bytes h.parent) (.int h.ben) (.bytes h.sroot) (.bytes h.troot) (.bytes h.rroot) (.bytes h.wroot) (.int h.bloom) (.int h.number) (.int h.limit) (.int h.used) (.int h.time) (.bytes h.extra) (.int h.random) (.int h.fee)
noncomputable abbrev In (B x:Int):Prop:=0≤x∧x<B
noncomputable abbrev Hv.nums (h:Hv):List Int:=[h.number,h.limit,h.used,h.time]
noncomputable abbrev Hv.roots (h:Hv):List L8:=[h.parent,h.sroot,h.troot,h.rroot,h.wroot]
structure Hv.NF (h:Hv):Prop where
 nums:∀x∈h.nums,In (2^64) x
 fee:In (2^256) h.fee
 random:In (2^256) h.random
 ben:In (2^160) h.ben
 roots:∀l∈h.roots,l.length=32
 extra:h.extra.length≤32
theorem rngE {x B:Int}{R:Bool→Prop}(g:In B x→R true)(b:¬In B x→R false):brd (0≤x) fun c=>cond c (brd (x<B) R) (R false):=
 Decidable.byCases (fun h1:0≤x=>zt h1 (Decidable.byCases (fun h2:x<B=>zt h2 (g ⟨h1,h2⟩)) fun h2=>zf h2 (b fun z=>h2 z.2))) fun h1=>zf h1 (b fun z=>h1 z.1)
theorem zclW {α:Type}{step:U→List U→KS→(List U→KS→Prop)→Prop}{Q:List U→KS→Prop}(f:α→U)(p:α→Bool){K:KS}:∀(l:List α),(∀x∈l,∀acc k,(p x=true→k (acc++[f x]) K)→(p x=false→k acc K)→step (f x) acc K k)→∀{acc},Q (acc++(l.filter p).map f) K→zCL step (l.map f) acc K Q
 | [],_,_,q=>by rw [List.filter_nil,List.map_nil,List.append_nil] at q;exact q
 |x::r,hs,acc,q=>hs x (.head _) acc _ (fun h=>zclW f p r (fun y m=>hs y (.tail _ m)) (by rw [List.filter_cons_of_pos h] at q;rw [List.append_assoc];exact q)) fun h=>zclW f p r (fun y m=>hs y (.tail _ m)) (by rw [List.filter_cons_of_neg (by rw [h];exact Bool.false_ne_true)] at q;exact q)
theorem zeq_nil {l:List L8}{R:Bool→Prop}(h0:l=[]→R true)(h1:l≠[]→R false):zEqU (.list (l.map U.bytes)) (.list []) R:=by
 unfold zEqU
 refine .mk (.inr (.inl ⟨_,rfl,rfl,plains_map fun ω=>rfl,?_⟩))
 cases l with
 |nil=>exact h0 rfl
 |cons=>exact h1 nofun
set_option maxHeartbeats 1000000 in
theorem need_form_ok {n:Nat}{h:Hv}{K Q E}(hl:∀l∈h.roots,l.length≤1000)(hx:h.extra.length≤1000)(he:¬h.NF→E 1 K)(q:h.NF→Q .none K):zF code (n+1) 20 [HdO h.val] K Q E:=by
 refine zo rfl rfl (zat _ rfl (zat _ rfl (zat _ rfl (zat _ rfl ⟨show 4≤1000000 by decide,?_⟩))))
 refine zforA (f:=U.int) (In (2^64)) (fun p=>[.val (HdO h.val),p,.unb]) h.nums (fun hn p=>?_) (fun x mx p k kn=>?_) .unb
 ·refine zat (.int h.fee) rfl (rngE (fun hf=>?_) fun z=>he fun w=>z w.fee)
  refine zat (.int h.random) rfl (rngE (fun hr=>?_) fun z=>he fun w=>z w.random)
  refine zat (.int h.ben) rfl (rngE (fun hb=>?_) fun z=>he fun w=>z w.ben)
  refine zat _ rfl (zat _ rfl (zat _ rfl (zat _ rfl (zat _ rfl ⟨show 5≤1000000 by decide,?_⟩))))
  refine zclW U.bytes (fun l:L8=>decide (l.length≠32)) h.roots (fun l ml acc k k1 k2=>?_) ?_
  ·refine ⟨Nat.le_trans (hl l ml) (by decide),zif (fun w=>k1 ?_) fun w=>k2 ?_⟩
   ·exact decide_eq_true fun e=>w (congrArg Int.ofNat e)
   ·exact decide_eq_false fun z=>w fun e=>z (Int.ofNat.inj e)
  refine zeq_nil (l:=h.roots.filter fun l:L8=>decide (l.length≠32)) (fun z=>?_) fun z=>?_
  ·have hr5:∀l∈h.roots,l.length=32:=fun l ml=>Decidable.byContradiction fun ne=>absurd (z▸List.mem_filter.mpr ⟨ml,decide_eq_true ne⟩:l∈[]) List.not_mem_nil
   refine zat (.bytes h.extra) rfl ⟨Nat.le_trans hx (by decide),zif (fun w=>he fun z=>absurd (Int.ofNat_le.mpr z.extra) (Int.not_le.mpr w)) fun w=>q ⟨hn,hf,hr,hb,hr5,Int.ofNat_le.mp (Int.not_lt.mp w)⟩⟩
  ·exact he fun w=>z (List.filter_eq_nil_iff.mpr fun l ml e=>of_decide_eq_true e (w.roots l ml))
 ·exact rngE (fun w=>(kn w _).1) fun z=>he fun w=>z (w.nums x mx)
end Internal
end
section
namespace Internal
noncomputable def k192:Nat:=valB [1,192]
structure KU (m:Nat)(K:KS):Prop where
 mem:(k192,m)∈K
 uni:∀p∈K,p.1=k192→p.2=m
 len:K.length≤800
theorem KU.of {m:Nat}{K:KS}{Q:ZQ}(h:KU m K)(q:Q (.bytes (fmt m)) K):zOf [.bytes [192]] K Q:=
 ⟨⟨show 1≤100000 by decide,Nat.le_trans h.len (by decide)⟩,fun m' K' o=>by
  cases o with
  |old z=>have e:=h.uni _ z rfl;cases e;exact q
  |new z=>exact absurd rfl (z _ h.mem)⟩
theorem no_uncles_ok {n m:Nat}{K:KS}{Q E}(h:KU m K)(q:Q (.bytes (fmt m)) K):zF code (n+5) 21 [.dig] K Q E:=
 zo rfl rfl (encoded_ok (t:=.l []) rfl (show 0+4≤n+4 from Nat.le_add_left _ _) (show 0≤60 by decide) (show 1≤100000 by decide) (h.of q))
noncomputable def zeros8:L8:=[0,0,0,0,0,0,0,0]
noncomputable def HvL (b m:Nat)(h:Hv):List L8:=[h.parent,fmt m,beN 20 h.ben.toNat,h.sroot,h.troot,h.rroot,beN (2^b/8) h.bloom.toNat,[],fig h.number.toNat,fig h.limit.toNat,fig h.used.toNat,fig h.time.toNat,
 h.extra,beN 32 h.random.toNat,zeros8,fig h.fee.toNat,h.wroot]
noncomputable def HvT (b m:Nat)(h:Hv):It:=.l ((HvL b m h).map It.b)
noncomputable def HvB (b m:Nat)(h:Hv):L8:=enc (HvT b m h)
noncomputable def HvOK (b:Nat)(h:Hv):Prop:=h.NF∧In ((2^2^b:Nat):Int) h.bloom
theorem fmt_ln (m:Nat):(fmt m).length=32:=by unfold fmt;rw [List.length_append,List.length_append,List.length_reverse,beN_ln,beN_ln,beN_ln]
theorem in_nat {B:Nat}{x:Int}(h:In B x):x=x.toNat∧x.toNat<B:=⟨(Int.toNat_of_nonneg h.1).symm,(Int.toNat_lt h.1).mpr h.2⟩
theorem dep_bs (ls:List L8):dep (.l (ls.map It.b))≤1:=deps_le fun t ht=>by obtain ⟨l,_,rfl⟩:=List.mem_map.mp ht;exact Nat.le_refl 1
theorem fig32 {B:Nat}{x:Int}(h:In B x)(hB:B≤256^32):(fig x.toNat).length≤32:=fig_len (Nat.lt_of_lt_of_le (in_nat h).2 hB)
theorem HvB_len {b m:Nat}{h:Hv}(hb:3≤b∧b≤6)(ok:h.NF):0<(HvB b m h).length∧(HvB b m h).length≤564:=by
 have n4:∀x∈h.nums,(fig x.toNat).length≤32:=fun x mx=>fig32 (B:=2^64) (ok.nums x mx) (by decide)
 have r5:∀l∈h.roots,l.length≤32:=fun l ml=>Nat.le_of_eq (ok.roots l ml)
 have bn:∀{k x},k≤32→(beN k x).length≤32:=fun {k x} hk=>by rw [beN_ln];exact hk
 have all:∀l∈HvL b m h,l.length≤32:=by
  refine List.forall_mem_cons.mpr ⟨r5 _ (.head _),?_⟩
  refine List.forall_mem_cons.mpr ⟨Nat.le_of_eq (fmt_ln m),?_⟩
  refine List.forall_mem_cons.mpr ⟨bn (by decide),?_⟩
  refine List.forall_mem_cons.mpr ⟨r5 _ (.tail _ (.head _)),?_⟩
  refine List.forall_mem_cons.mpr ⟨r5 _ (.tail _ (.tail _ (.head _))),?_⟩
  refine List.forall_mem_cons.mpr ⟨r5 _ (.tail _ (.tail _ (.tail _ (.head _)))),?_⟩
  refine List.forall_mem_cons.mpr ⟨bn (Nat.le_trans (bits_f hb).1 (by decide)),?_⟩
  refine List.forall_mem_cons.mpr ⟨Nat.zero_le _,?_⟩
  refine List.forall_mem_cons.mpr ⟨n4 _ (.head _),?_⟩
  refine List.forall_mem_cons.mpr ⟨n4 _ (.tail _ (.head _)),?_⟩
  refine List.forall_mem_cons.mpr ⟨n4 _ (.tail _ (.tail _ (.head _))),?_⟩
  refine List.forall_mem_cons.mpr ⟨n4 _ (.tail _ (.tail _ (.tail _ (.head _)))),?_⟩
  refine List.forall_mem_cons.mpr ⟨ok.extra,?_⟩
  refine List.forall_mem_cons.mpr ⟨bn (by decide),?_⟩
  refine List.forall_mem_cons.mpr ⟨show 8≤32 by decide,?_⟩
  refine List.forall_mem_cons.mpr ⟨fig32 (B:=2^256) ok.fee (by decide),?_⟩
  exact List.forall_mem_singleton.mpr (r5 _ (.tail _ (.tail _ (.tail _ (.tail _ (.head _))))))
 have es:(encs ((HvL b m h).map It.b)).length≤17*33:=em_le fun l ml=>eb_le (all l ml) fun ω=>hdS (Nat.lt_of_le_of_lt (all l ml) (by decide))
 exact ⟨enc_pos _,el_le es fun ω=>hdK (k:=2) (Nat.lt_of_le_of_lt es (by decide))⟩
end Internal
end
section
namespace Internal
theorem number_i {n:Nat}{B:Nat}{x:Int}{K Q E}(h:In B x)(hB:B≤2^256)(q:Q (.bytes (fig x.toNat)) K):zF code (n+1) 1 [.int x] K Q E:=by
 obtain ⟨y,rfl⟩:=Int.eq_ofNat_of_zero_le h.1
 exact number_ok (Nat.lt_of_lt_of_le (Int.ofNat_lt.mp h.2) hB) q
set_option maxHeartbeats 1000000 in
theorem header_octets_ok {n b m:Nat}{h:Hv}{K Q E}(hb:3≤b∧b≤6)(hl:∀l∈h.roots,l.length≤1000)(hx:h.extra.length≤1000)(hk:KU m K)(he:¬HvOK b h→∀c,c≤1→E c K)
  (q:HvOK b h→Q (.bytes (HvB b m h)) K):zF code (n+10) 22 [HdO h.val,.dig,.int b] K Q E:=by
 refine zo rfl rfl (need_form_ok hl hx (fun z=>he (fun w=>z w.1) 1 (by decide)) fun nf=>?_)
 refine zat _ rfl (zat _ rfl (zat _ rfl (zat _ rfl ⟨show 5≤1000000 by decide,?_⟩)))
 refine zcl U.int (fun x=>.bytes (fig x.toNat)) [0,h.number,h.limit,h.used,h.time] (fun x mx acc k q=>?_) ?_
 ·exact number_i (B:=2^64) ((List.forall_mem_cons.mpr ⟨⟨by decide,by decide⟩,nf.nums⟩:∀x∈[0,h.number,h.limit,h.used,h.time],In (2^64) x) x mx) (by decide) q
 refine zat _ rfl (zat _ rfl (zat _ rfl ?_))
 refine zat _ rfl (no_uncles_ok hk ?_)
 have ⟨e1,l1⟩:=in_nat (B:=2^160) nf.ben
 have ⟨e2,l2⟩:=in_nat (B:=2^256) nf.random
 have ⟨e3,l3⟩:=in_nat (B:=2^256) nf.fee
 refine zat (.int h.ben.toNat) (congrArg U.int e1) (word20_ok l1 ?_)
 refine zat (.bytes h.extra) rfl ?_
 refine zat (.int h.random.toNat) (congrArg U.int e2) (word_octets_ok l2 ?_)
 refine zat (.int h.fee.toNat) (congrArg U.int e3) (number_ok l3 ?_)
 refine zat (.int h.bloom) rfl (bloom_ok hb (fun z=>he (fun w=>z w.2) 0 (by decide)) fun x xe xl=>?_)
 have hbl:h.bloom.toNat=x:=by rw [xe];rfl
 have hlen:=HvB_len (b:=b) (m:=m) hb nf
 refine zat (.bytes h.wroot) rfl ?_
 exact encoded_ok (t:=HvT b m h) (by unfold HvT HvL;rw [hbl];rfl) (Nat.le_trans (Nat.add_le_add_right (dep_bs _) 4) (Nat.le_add_left 5 (n+4))) (Nat.le_trans (dep_bs _) (by decide)) (Nat.le_trans hlen.2 (by decide)) (q ⟨nf,xe▸⟨Int.natCast_nonneg x,Int.ofNat_lt.mpr xl⟩⟩)
theorem HvB_1 {h:Hv}(ok:h.NF):(∀l∈h.roots,l.length≤1000)∧h.extra.length≤1000:=⟨fun l ml=>Nat.le_trans (Nat.le_of_eq (ok.roots l ml)) (by decide),Nat.le_trans ok.extra (by decide)⟩
theorem header_hash_ok {n b m:Nat}{h:Hv}{K Q E}(hb:3≤b∧b≤6)(hk:KU m K)(ok:HvOK b h)(q:zOf [.bytes (HvB b m h)] K Q):zF code (n+11) 23 [HdO h.val,.dig,.int b] K Q E:=
 have k:=HvB_1 ok.1
 zo rfl rfl (header_octets_ok hb k.1 k.2 hk (fun z=>absurd ok z) fun ω=>q)
end Internal
end
section
namespace Internal
theorem fig_ki {n B c:Nat}{x:Int}{K Q E}(hc:c≤64)(h:In B x)(q:Q (.bytes (beN c x.toNat)) K):zF code (n+1) 37 [.int x,.int c] K Q E:=by
 obtain ⟨y,rfl⟩:=Int.eq_ofNat_of_zero_le h.1
 exact figures_k hc q
theorem fig_mi {n B:Nat}{x:Int}{K Q E}(h:In B x)(hB:B≤2^256)(q:Q (.bytes (fig x.toNat)) K):zF code (n+1) 37 [.int x,.int (-1)] K Q E:=by
 obtain ⟨y,rfl⟩:=Int.eq_ofNat_of_zero_le h.1
 exact figures_m (Nat.lt_of_lt_of_le (Int.ofNat_lt.mp h.2) hB) q
noncomputable def Hv.num (h:Hv)(f:F):Int:=F.rec 0 0 0 0 0 0 0 h.number h.limit h.used h.time 0 0 0 f
noncomputable abbrev fs4:List F:=[.number,.limit,.used,.time]
theorem Hv.num4 {h:Hv}(ok:h.NF):∀f∈fs4,In (2^64) (h.num f)∧h.val f=.int (h.num f):=
 List.forall_mem_cons.mpr ⟨⟨ok.nums _ (.head _),rfl⟩,List.forall_mem_cons.mpr ⟨⟨ok.nums _ (.tail _ (.head _)),rfl⟩,List.forall_mem_cons.mpr ⟨⟨ok.nums _ (.tail _ (.tail _ (.head _))),rfl⟩,List.forall_mem_singleton.mpr ⟨ok.nums _ (.tail _ (.tail _ (.tail _ (.head _)))),rfl⟩⟩⟩⟩
theorem HasH.gete {ks us}{g:Hg}(H:HasH ks us g)(f:F){u:U}(e:g f=u){Q:U→Prop}(q:Q u):getU f.name ks us Q:=H.get f (e▸q)
set_option maxHeartbeats 1000000 in
theorem law_head_octets_ok {n b m:Nat}{ks us}{h:Hv}{K Q E}(hb:3≤b∧b≤6)(H:HasH ks us h.val)(ok:HvOK b h)(q:Q (.bytes (HvB b m h)) K):zF code (n+9) 40 [.dict ks us,.int b,.bytes (fmt m)] K Q E:=by
 refine zo rfl rfl (H.get .parent ?_)
 refine H.get .ben (fig_ki (x:=h.ben) (B:=2^160) (c:=20) (by decide) ok.1.ben ?_)
 refine slN5 ⟨show 3≤1000000 by decide,?_⟩
 refine zcl (fun f:F=>U.str f.name) h.val [F.sroot,.troot,.rroot] (fun f mf acc k q=>H.get f q) ?_
 refine H.get .bloom (powN 2 b rfl rfl (by decide) (Nat.le_trans hb.2 (by decide)) ?_)
 refine fig_ki (x:=h.bloom) (c:=2^b/8) (Nat.le_trans (bits_f hb).1 (by decide)) ok.2 ?_
 refine ⟨show 4≤1000000 by decide,?_⟩
 refine zcl (fun f:F=>U.str f.name) (fun f=>.bytes (fig (h.num f).toNat)) fs4 (fun f mf acc k q=>H.gete f (h.num4 ok.1 f mf).2 (fig_mi (B:=2^64) (h.num4 ok.1 f mf).1 (by decide) q)) ?_
 refine H.get .extra ?_
 refine H.get .random (fig_ki (x:=h.random) (B:=2^256) (c:=32) (by decide) ok.1.random ?_)
 refine H.get .fee (fig_mi (x:=h.fee) (B:=2^256) ok.1.fee (by decide) ?_)
 refine H.get .wroot ?_
 have hlen:=HvB_len (b:=b) (m:=m) hb ok.1
 exact laid_it (t:=HvT b m h) rfl (Nat.le_trans (Nat.add_le_add_right (dep_bs _) 2) (Nat.le_add_left 3 (n+5))) (Nat.le_trans hlen.2 (by decide)) q
end Internal
end
section
namespace Internal
noncomputable def kA:List String:=["bloom", "extra", "number", "limit", "used", "time", "random", "base_fee", "beneficiary", "parent", "state_root", "transactions_root", "receipts_root", "withdrawals_root"]
noncomputable def vA (g:Hg):List U:=[g .bloom,g .extra,g .number,g .limit,g .used,g .time,g .random,g .fee,g .ben,g .parent,g .sroot,g .troot,g .rroot,g .wroot]
theorem hasA (g:Hg):HasH kA (vA g) g:=F.rec rfl rfl rfl rfl rfl rfl rfl rfl rfl rfl rfl rfl rfl rfl
theorem in_of {B x:Nat}(h:x<B):In B (x:Int):=⟨Int.natCast_nonneg x,Int.ofNat_lt.mpr h⟩
theorem seed32 {n:Nat}{K Q E}(q:∀l:L8,l.length=32→Q (.bytes l) K):zF code (n+2) 32 [.well,.int 32] K Q E:=seeded_ok (m:=32) rfl (by decide) q
set_option maxHeartbeats 400000 in
theorem law_head_tail {n b:Nat}{bl ex x1 x2 x3 x4 x5 x6 x7:U}{K Q E}(q:∀r1 r2 r3 r4 r5:L8,(∀l∈[r1,r2,r3,r4,r5],l.length=32)→Q (.dict kA [bl,ex,x1,x2,x3,x4,x5,x6,x7,.bytes r1,.bytes r2,.bytes r3,.bytes r4,.bytes r5]) K) :
  zSs (zch (n+5)) (c__law_head.body.drop 4) [.val .well,.val (.int b),.gdict ["bloom", "extra", "number", "limit", "used", "time", "random", "base_fee", "beneficiary"] [bl,ex,x1,x2,x3,x4,x5,x6,x7],.val (.str "time")] K (retZ Q) (errZ E):=by
 refine ⟨show 5≤1000000 by decide,?_⟩
 refine seed32 fun r1 e1=>?_
 refine seed32 fun r2 e2=>?_
 refine seed32 fun r3 e3=>?_
 refine seed32 fun r4 e4=>?_
 refine seed32 fun r5 e5=>?_
 exact q r1 r2 r3 r4 r5 (List.forall_mem_cons.mpr ⟨e1,List.forall_mem_cons.mpr ⟨e2,List.forall_mem_cons.mpr ⟨e3,List.forall_mem_cons.mpr ⟨e4,List.forall_mem_singleton.mpr e5⟩⟩⟩⟩)
set_option maxHeartbeats 400000 in
theorem law_head_ok {n b:Nat}{K Q E}(hb:3≤b∧b≤6)(q:∀h:Hv,HvOK b h→Q (.dict kA (vA h.val)) K):zF code (n+6) 34 [.well,.int b] K Q E:=by
 have ⟨_,_,h64⟩:=bits_f hb
 have hX:1<2^2^b:=Nat.one_lt_two_pow (Nat.ne_of_gt (Nat.pow_pos (by decide)))
 refine zo rfl rfl (powN 2 b rfl rfl (by decide) (Nat.le_trans hb.2 (by decide)) ?_)
 refine powN 2 (2^b) rfl rfl (by decide) (Nat.le_trans h64 (by decide)) ?_
 refine subN (2^2^b-1) 1 rfl rfl (Nat.sub_add_cancel (Nat.le_of_lt hX)).symm ?_
 refine zdf (zdr (z:=3) rfl (by decide) fun i hi=>gd_ ⟨Int.natCast_nonneg i,by clear hX;lia⟩ (nthN (ns:=[0,1,2^2^b-1]) hi fun bl mb=>?_))
 have hbl:bl<2^2^b:=by
  simp only [List.mem_cons,List.not_mem_nil,or_false] at mb
  rcases mb with rfl |rfl |rfl
  ·exact Nat.lt_of_lt_of_le (by decide) (Nat.le_of_lt hX)
  ·exact hX
  ·exact Nat.sub_lt (Nat.lt_of_lt_of_le (by decide) (Nat.le_of_lt hX)) (by decide)
 refine zdf (zdr (z:=3) rfl (by decide) fun i hi=>gd_ ⟨Int.natCast_nonneg i,by clear hX;lia⟩ (nthN (ns:=[0,1,32]) hi fun xl ml=>?_))
 have hxl:xl≤32:=by
  simp only [List.mem_cons,List.not_mem_nil,or_false] at ml
  rcases ml with rfl |rfl |rfl<;>decide
 refine seeded_ok rfl (Nat.le_trans hxl (by decide)) fun ex hex=>?_
 refine ⟨show 4≤1000000 by decide,?_⟩
 refine short_ok (pick_ok (by decide) (by decide) fun x1 m1=>?_)
 refine short_ok (pick_ok (by decide) (by decide) fun x2 m2=>?_)
 refine short_ok (pick_ok (by decide) (by decide) fun x3 m3=>?_)
 refine short_ok (pick_ok (by decide) (by decide) fun x4 m4=>?_)
 refine wide_ok (pick_ok (by decide) (by decide) fun x5 m5=>?_)
 refine wide_ok (pick_ok (by decide) (by decide) fun x6 m6=>?_)
 refine homes_ok (pick_ok (by decide) (by decide) fun x7 m7=>?_)
 refine law_head_tail fun r1 r2 r3 r4 r5 e=>q ⟨r1,r2,r3,r4,r5,ex,x7,bl,x1,x2,x3,x4,x5,x6⟩ ⟨⟨?_,in_of (wides_lt m6),in_of (wides_lt m5),in_of (homes_lt m7),e,hex▸hxl⟩,in_of hbl⟩
 exact List.forall_mem_cons.mpr ⟨in_of (shorts_lt m1),List.forall_mem_cons.mpr ⟨in_of (shorts_lt m2),List.forall_mem_cons.mpr ⟨in_of (shorts_lt m3),List.forall_mem_singleton.mpr (in_of (shorts_lt m4))⟩⟩⟩
end Internal
end
section
namespace Internal
inductive BadH (b:Nat)(h:Hv)(a:F×Hv):Prop
  |mk:setKs a.1.name kA=kA→setV a.1.name (a.2.val a.1) kA (vA h.val)=vA a.2.val→¬HvOK b a.2→(∀l∈a.2.roots,l.length≤1000)→a.2.extra.length≤1000→BadH b h a
theorem c01 {E:ZE}{K:KS}(e0:E 0 K)(e1:E 1 K):∀c,c≤1→E c K
  |0,_=>e0
  |1,_=>e1
theorem refuse_1 {n b m:Nat}{h:Hv}{a:F×Hv}{K:KS}{Q:ZQ}{E:ZE}(hb:3≤b∧b≤6)(hk:KU m K)(z:BadH b h a)(e0:E 0 K)(e1:E 1 K) :
    zF code (n+10) 36 [.dict (setKs a.1.name kA) (setV a.1.name (a.2.val a.1) kA (vA h.val))] K (fun u K=>zF code (n+10) 22 [u,.dig,.int b] K Q E) E:=by
  cases z with |mk z1 z2 z3 z4 z5=>
  rw [z1,z2]
  exact made_head_ok (hasA a.2.val) (header_octets_ok hb z4 z5 hk (fun ω=>c01 e0 e1) fun ok=>absurd ok z3)
noncomputable def badL (b:Nat)(h:Hv):List (F×Hv):=
  [(.number,{h with number:=-1}),(.number,{h with number:=(2^64:Nat)}),(.limit,{h with limit:=-1}),(.limit,{h with limit:=(2^64:Nat)}),(.used,{h with used:=-1}),(.used,{h with used:=(2^64:Nat)}),(.time,{h with time:=-1}),(.time,{h with time:=(2^64:Nat)}),
   (.random,{h with random:=-1}),(.random,{h with random:=(2^256:Nat)}),(.fee,{h with fee:=-1}),(.fee,{h with fee:=(2^256:Nat)}),(.ben,{h with ben:=-1}),
   (.ben,{h with ben:=(2^160:Nat)}),(.parent,{h with parent:=(List.replicate 31 [97]).flatten}),(.rroot,{h with rroot:=(List.replicate 33 [97]).flatten}),(.extra,{h with extra:=(List.replicate 33 [97]).flatten}),
   (.bloom,{h with bloom:=(2^2^b:Nat)}),(.bloom,{h with bloom:=-1})]
theorem not_m1 {B:Int}:¬In B (-1):=fun z=>absurd z.1 (by decide)
theorem not_B {B:Nat}:¬In (B:Int) ((B:Nat):Int):=fun z=>Int.lt_irrefl _ z.2
theorem badL_ok {b:Nat}{h:Hv}(ok:h.NF):∀a∈badL b h,BadH b h a:=by
  have h1:=HvB_1 ok
  have r0:h.parent.length≤1000:=h1.1 _ (.head _)
  have c:=@List.forall_mem_cons (F×Hv) (BadH b h)
  have N:∀{x:Int} {h':Hv} {i:Nat},h'.nums[i]? = some x→¬In (2^64) x→¬HvOK b h':=fun e n z=>n (z.1.nums _ (List.mem_of_getElem? e))
  have n31:¬((List.replicate 31 [97]).flatten:L8).length=32:=by decide
  have s31:((List.replicate 31 [97]).flatten:L8).length≤1000:=by decide
  have n33:¬((List.replicate 33 [97]).flatten:L8).length=32:=by decide
  have s33:((List.replicate 33 [97]).flatten:L8).length≤1000:=by decide
  have e33:¬((List.replicate 33 [97]).flatten:L8).length≤32:=by decide
  refine c.mpr ⟨.mk rfl rfl (N (i:=0) rfl not_m1) h1.1 h1.2,?_⟩
  refine c.mpr ⟨.mk rfl rfl (N (i:=0) rfl not_B) h1.1 h1.2,?_⟩
  refine c.mpr ⟨.mk rfl rfl (N (i:=1) rfl not_m1) h1.1 h1.2,?_⟩
  refine c.mpr ⟨.mk rfl rfl (N (i:=1) rfl not_B) h1.1 h1.2,?_⟩
  refine c.mpr ⟨.mk rfl rfl (N (i:=2) rfl not_m1) h1.1 h1.2,?_⟩
  refine c.mpr ⟨.mk rfl rfl (N (i:=2) rfl not_B) h1.1 h1.2,?_⟩
  refine c.mpr ⟨.mk rfl rfl (N (i:=3) rfl not_m1) h1.1 h1.2,?_⟩
  refine c.mpr ⟨.mk rfl rfl (N (i:=3) rfl not_B) h1.1 h1.2,?_⟩
  refine c.mpr ⟨.mk rfl rfl (fun z=>not_m1 z.1.random) h1.1 h1.2,?_⟩
  refine c.mpr ⟨.mk rfl rfl (fun z=>not_B z.1.random) h1.1 h1.2,?_⟩
  refine c.mpr ⟨.mk rfl rfl (fun z=>not_m1 z.1.fee) h1.1 h1.2,?_⟩
  refine c.mpr ⟨.mk rfl rfl (fun z=>not_B z.1.fee) h1.1 h1.2,?_⟩
  refine c.mpr ⟨.mk rfl rfl (fun z=>not_m1 z.1.ben) h1.1 h1.2,?_⟩
  refine c.mpr ⟨.mk rfl rfl (fun z=>not_B z.1.ben) h1.1 h1.2,?_⟩
  refine c.mpr ⟨.mk rfl rfl (fun z=>n31 (z.1.roots _ (.head _))) (List.forall_mem_cons.mpr ⟨s31,(List.forall_mem_cons.mp h1.1).2⟩) h1.2,?_⟩
  refine c.mpr ⟨.mk rfl rfl (fun z=>n33 (z.1.roots _ (.tail _ (.tail _ (.tail _ (.head _)))))) ?_ h1.2,?_⟩
  · exact List.forall_mem_cons.mpr ⟨r0,List.forall_mem_cons.mpr ⟨h1.1 _ (.tail _ (.head _)),List.forall_mem_cons.mpr ⟨h1.1 _ (.tail _ (.tail _ (.head _))),List.forall_mem_cons.mpr ⟨s33,List.forall_mem_singleton.mpr (h1.1 _ (.tail _ (.tail _ (.tail _ (.tail _ (.head _))))))⟩⟩⟩⟩
  refine c.mpr ⟨.mk rfl rfl (fun z=>e33 z.1.extra) h1.1 s33,?_⟩
  refine c.mpr ⟨.mk rfl rfl (fun z=>not_B z.2) h1.1 h1.2,?_⟩
  exact List.forall_mem_singleton.mpr (.mk rfl rfl (fun z=>not_m1 z.2) h1.1 h1.2)
end Internal
end
section
namespace Internal
noncomputable def badR:List (Int×Int×Int):=[(3,1,0),(-1,1,0),(0,-1,0),(1,(2^64:Nat),0),(0,1,-1)]
theorem badR_ok:∀a∈badR,¬(In 3 a.1∧In (2^64) a.2.1∧0≤a.2.2):=by
 refine List.forall_mem_cons.mpr ⟨fun z=>absurd z.1.2 (by decide),?_⟩
 refine List.forall_mem_cons.mpr ⟨fun z=>absurd z.1.1 (by decide),?_⟩
 refine List.forall_mem_cons.mpr ⟨fun z=>absurd z.2.1.1 (by decide),?_⟩
 refine List.forall_mem_cons.mpr ⟨fun z=>absurd z.2.1.2 (by decide),?_⟩
 exact List.forall_mem_singleton.mpr fun z=>absurd z.2.2 (by decide)
theorem refuse_2 {n b:Nat}{a:Int×Int×Int}{K:KS}{Q:ZQ}{E:ZE}(hb:3≤b∧b≤6)(z:¬(In 3 a.1∧In (2^64) a.2.1∧0≤a.2.2))(e0:E 0 K)(e1:E 1 K) :
  zF code (n+12) 35 [.list [.int a.1,.bool true,.int a.2.1,.int a.2.2,.list []]] K (fun u K=>zF code (n+12) 16 [u,.int b] K Q E) E:=
 made_ok (gs:=[]) (Nat.zero_le _) (octets_ok hb (fun ω h=>absurd h List.not_mem_nil) (Nat.zero_le _) (fun ω=>c01 e0 e1) fun r h1 ω h3 h4 ω ok=>
  absurd ⟨⟨h1▸Int.natCast_nonneg _,h1▸Int.ofNat_lt.mpr (Nat.lt_succ_of_le ok.1)⟩,⟨h3▸Int.natCast_nonneg _,h3▸Int.ofNat_lt.mpr ok.2.1⟩,h4▸Int.natCast_nonneg _⟩ z)
theorem zclB {α:Type}{step:U→List U→KS→(List U→KS→Prop)→Prop}{Q:List U→KS→Prop}(f:α→U)(g:α→U){K:KS}:∀(l:List α),(∀x∈l,∀acc k,acc.length≤1000000→k (acc++[g x]) K→step (f x) acc K k)→
  ∀{acc},acc.length+l.length≤1000000→Q (acc++l.map g) K→zCL step (l.map f) acc K Q
 | [],_,_,_,q=>by rw [List.map_nil,List.append_nil] at q;exact q
 |x::r,hs,acc,hl,q=>hs x (.head _) acc _ (Nat.le_trans (Nat.le_add_right _ _) hl) (zclB f g r (fun y m=>hs y (.tail _ m)) (by rw [List.length_append];exact Nat.le_trans (Nat.le_of_eq (Nat.add_assoc ..)) (Nat.add_comm r.length 1▸hl)) (by rw [List.append_assoc];exact q))
theorem zclO {α:Type}{step:U→List U→KS→(List U→KS→Prop)→Prop}{Q:List U→KS→Prop}(f:α→U)(g:α→List U)(hg:∀x,(g x).length=2){K:KS}:∀(l:List α),(∀x∈l,∀acc k,acc.length+2≤1000000→k (acc++g x) K→step (f x) acc K k)→
  ∀{acc},acc.length+l.length*2≤1000000→Q (acc++(l.map g).flatten) K→zCL step (l.map f) acc K Q
 | [],_,_,_,q=>by rw [List.map_nil,List.flatten_nil,List.append_nil] at q;exact q
 |x::r,hs,acc,hl,q=>by
  rw [List.length_cons,Nat.succ_mul,Nat.add_comm (r.length*2),←Nat.add_assoc] at hl
  exact hs x (.head _) acc _ (Nat.le_trans (Nat.le_add_right _ _) hl) (zclO f g hg r (fun y m=>hs y (.tail _ m)) (by rw [List.length_append,hg];exact hl) (by rw [List.append_assoc];exact q))
set_option maxHeartbeats 400000 in
theorem refused_ok {n b m:Nat}{h:Hv}{K:KS}{Q E}(hb:3≤b∧b≤6)(hk:KU m K)(ok:h.NF)(q:Q (.bool true) K):zF code (n+13) 52 [.dict kA (vA h.val),.int b,.dig] K Q E:=by
 have ⟨_,_,h64⟩:=bits_f hb
 have t256:∀{Q:U→Prop},Q (.int (2^256:Nat))→zPowI 2 256 Q:=fun q=>powN 2 256 rfl rfl (by decide) (by decide) q
 refine zo rfl rfl ⟨show 4≤1000000 by decide,?_⟩
 refine zclO (fun f:F=>U.str f.name) (fun f=>[(-1:Int),(2^64:Nat)].map fun x=>.tup [.str f.name,.int x]) (fun ω=>rfl) fs4 (fun f mf acc k hl q=>?_) (show 0+4*2≤1000000 by decide) ?_
 ·refine powN 2 64 rfl rfl (by decide) (by decide) ?_
  refine ⟨show 2≤1000000 by decide,?_⟩
  exact zclB U.int (fun x=>.tup [.str f.name,.int x]) [-1,(2^64:Nat)] (fun x mx acc k l q=>⟨l,q⟩) hl q
 refine t256 ?_
 refine t256 ?_
 refine powN 2 160 rfl rfl (by decide) (by decide) ?_
 refine powN 2 b rfl rfl (by decide) (Nat.le_trans hb.2 (by decide)) ?_
 refine powN 2 (2^b) rfl rfl (by decide) (Nat.le_trans h64 (by decide)) ?_
 refine ⟨show 19≤1000000 by decide,?_⟩
 refine zforA (R:=Sl×Sl×Sl) (f:=fun a:F×Hv=>U.tup [.str a.1.name,a.2.val a.1]) (fun ω=>True) (fun p=>[.val (.dict kA (vA h.val)),.val (.int b),.val .dig,.val _,p.1,p.2.1,p.2.2]) (badL b h) (fun ω p=>?_) (fun a ma p k kn=>?_) (.unb,.unb,.unb)
 ·refine powN 2 64 rfl rfl (by decide) (by decide) ?_
  refine ⟨show 5≤1000000 by decide,?_⟩
  refine zforA (R:=Sl) (f:=fun a:Int×Int×Int=>U.list [.int a.1,.bool true,.int a.2.1,.int a.2.2,.list []]) (fun ω=>True) (fun p'=>[.val (.dict kA (vA h.val)),.val (.int b),.val .dig,.val _,p.1,p.2.1,p']) badR (fun ω p=>q) (fun a ma p' k kn=>?_) p.2.2
  exact refuse_2 hb (badR_ok a ma) (kn trivial _).2 (kn trivial _).2
 ·exact refuse_1 hb hk (badL_ok ok a ma) (kn trivial (_,_,_)).2 (kn trivial (_,_,_)).2
end Internal
end
section
namespace Internal
noncomputable def eqF (x:L8):It→Option Unit
 |.b l=>if l=x then some () else none
 |.l _=>none
noncomputable def rootF:It→Option L8
 |.b l=>if l.length=32 then some l else none
 |.l _=>none
noncomputable def exF:It→Option L8
 |.b l=>if l.length≤32 then some l else none
 |.l _=>none
theorem ifS {α:Type}{p:Prop}[Decidable p]{x y:α}(h:(if p then some x else none)=some y):p∧x=y:=by
 by_cases q:p
 ·rw [if_pos q] at h;exact ⟨q,Option.some.inj h⟩
 ·rw [if_neg q] at h;cases h
theorem eqF_some {x:L8}{t:It}{u:Unit}(h:eqF x t=some u):t=.b x:=by
 cases t with
 |l=>cases h
 |b l=>rw [(ifS h).1]
theorem rootF_some {t:It}{l:L8}(h:rootF t=some l):t=.b l∧l.length=32:=by
 cases t with
 |l=>cases h
 |b l'=>have ⟨a,e⟩:=ifS h;subst e;exact ⟨rfl,a⟩
theorem exF_some {t:It}{l:L8}(h:exF t=some l):t=.b l∧l.length≤32:=by
 cases t with
 |l=>cases h
 |b l'=>have ⟨a,e⟩:=ifS h;subst e;exact ⟨rfl,a⟩
noncomputable def hdF (b m:Nat)(t:Nat→It):Option Hv:=
 obnd (eqF (fmt m) (t 1)) fun ω=>obnd (eqF [] (t 7)) fun ω=>obnd (eqF zeros8 (t 14)) fun ω=>
 obnd (numF (2^64) (t 8)) fun nu=>obnd (numF (2^64) (t 9)) fun li=>obnd (numF (2^64) (t 10)) fun us=>obnd (numF (2^64) (t 11)) fun ti=>
 obnd (exF (t 12)) fun ex=>obnd (numF (2^256) (t 15)) fun fe=>obnd (fixF 20 (t 2)) fun be=>obnd (fixF 32 (t 13)) fun ra=>
 obnd (rootF (t 3)) fun r0=>obnd (rootF (t 4)) fun r1=>obnd (rootF (t 5)) fun r2=>obnd (rootF (t 16)) fun r3=>obnd (rootF (t 0)) fun pa=>obnd (fixF (2^b/8) (t 6)) fun bl=>
 some ⟨pa,r0,r1,r2,r3,ex,be,bl,nu,li,us,ti,ra,fe⟩
theorem hdF_some {b m:Nat}{t:Nat→It}{h:Hv}(hb:3≤b∧b≤6)(e:hdF b m t=some h):HvT b m h=.l ((List.range 17).map t)∧HvOK b h:=by
 refine obnd_el e fun ω e1 e=>obnd_el e fun ω e7 e=>obnd_el e fun ω e14 e=>?_
 refine obnd_el e fun nu e8 e=>obnd_el e fun li e9 e=>obnd_el e fun us e10 e=>obnd_el e fun ti e11 e=>?_
 refine obnd_el e fun ex e12 e=>obnd_el e fun fe e15 e=>obnd_el e fun be e2 e=>obnd_el e fun ra e13 e=>?_
 refine obnd_el e fun r0 e3 e=>obnd_el e fun r1 e4 e=>obnd_el e fun r2 e5 e=>obnd_el e fun r3 e16 e=>obnd_el e fun pa e0 e=>obnd_el e fun bl e6 e=>?_
 cases e
 have c:=@List.forall_mem_cons
 refine ⟨congrArg It.l ?_,⟨⟨?_,in_of (numF_some e15).2,in_of (fixF_some e13).2,in_of (fixF_some e2).2,?_,(exF_some e12).2⟩,in_of ((bits_f hb).2.1▸(fixF_some e6).2)⟩⟩
 ·show _=[t 0,t 1,t 2,t 3,t 4,t 5,t 6,t 7,t 8,t 9,t 10,t 11,t 12,t 13,t 14,t 15,t 16]
  rw [(rootF_some e0).1,eqF_some e1,(fixF_some e2).1,(rootF_some e3).1,(rootF_some e4).1,(rootF_some e5).1,(fixF_some e6).1,eqF_some e7,(numF_some e8).1,(numF_some e9).1,(numF_some e10).1,(numF_some e11).1,(exF_some e12).1,(fixF_some e13).1,eqF_some e14,(numF_some e15).1,(rootF_some e16).1]
  rfl
 ·exact c.mpr ⟨in_of (numF_some e8).2,c.mpr ⟨in_of (numF_some e9).2,c.mpr ⟨in_of (numF_some e10).2,List.forall_mem_singleton.mpr (in_of (numF_some e11).2)⟩⟩⟩
 ·exact c.mpr ⟨(rootF_some e0).2,c.mpr ⟨(rootF_some e3).2,c.mpr ⟨(rootF_some e4).2,c.mpr ⟨(rootF_some e5).2,List.forall_mem_singleton.mpr (rootF_some e16).2⟩⟩⟩⟩
end Internal
end
section
namespace Internal
theorem obnd_S {α β:Type}{x:Option α}{f:α→Option β}{z:α}{y:Option β}(e:x=some z)(k:f z=y):obnd x f=y:=by rw [e];exact k
theorem hdF_HvT {b m:Nat}{h:Hv}(hb:3≤b∧b≤6)(ok:HvOK b h):hdF b m (fun i=>((HvL b m h).map It.b).getD i (.l []))=some h:=by
 have n4:∀x∈h.nums,numF (2^64) (.b (fig x.toNat))=some x.toNat:=fun x mx=>numF_fig (in_nat (B:=2^64) (ok.1.nums x mx)).2
 have r5:∀l∈h.roots,rootF (.b l)=some l:=fun l ml=>if_pos (ok.1.roots l ml)
 have eq:∀x,eqF x (.b x)=some ():=fun x=>if_pos rfl
 refine obnd_S (eq _) (obnd_S (eq _) (obnd_S (eq _) ?_))
 refine obnd_S (n4 _ (.head _)) (obnd_S (n4 _ (.tail _ (.head _))) (obnd_S (n4 _ (.tail _ (.tail _ (.head _)))) (obnd_S (n4 _ (.tail _ (.tail _ (.tail _ (.head _))))) ?_)))
 refine obnd_S (if_pos ok.1.extra) (obnd_S (numF_fig (in_nat (B:=2^256) ok.1.fee).2) (obnd_S (fixF_beN (in_nat (B:=2^160) ok.1.ben).2) (obnd_S (fixF_beN (k:=32) (in_nat (B:=2^256) ok.1.random).2) ?_)))
 refine obnd_S (r5 _ (.tail _ (.head _))) (obnd_S (r5 _ (.tail _ (.tail _ (.head _)))) (obnd_S (r5 _ (.tail _ (.tail _ (.tail _ (.head _))))) (obnd_S (r5 _ (.tail _ (.tail _ (.tail _ (.tail _ (.head _)))))) (obnd_S (r5 _ (.head _)) ?_))))
 refine obnd_S (fixF_beN ((bits_f hb).2.1▸(in_nat ok.2).2)) (congrArg some ?_)
 have e8:=(in_nat (B:=2^64) (ok.1.nums _ (.head _))).1
 have e9:=(in_nat (B:=2^64) (ok.1.nums _ (.tail _ (.head _)))).1
 have e10:=(in_nat (B:=2^64) (ok.1.nums _ (.tail _ (.tail _ (.head _))))).1
 have e11:=(in_nat (B:=2^64) (ok.1.nums _ (.tail _ (.tail _ (.tail _ (.head _)))))).1
 have e1:=(in_nat (B:=2^256) ok.1.fee).1
 have e2:=(in_nat (B:=2^256) ok.1.random).1
 have e3:=(in_nat (B:=2^160) ok.1.ben).1
 have e4:=(in_nat ok.2).1
 rw [←e8,←e9,←e10,←e11,←e1,←e2,←e3,←e4]
end Internal
end
section
namespace Internal
structure Dn (x:Option Hv)(E:Prop)(Q:Hv→Prop):Prop where
 no:x=none→E
 yes:∀h,x=some h→Q h
theorem Dn.s {α:Type}{x:Option α}{f:α→Option Hv}{z:α}{E Q}(d:Dn (obnd x f) E Q)(e:x=some z):Dn (f z) E Q:=by cases e;exact d
theorem Dn.n {α:Type}{x:Option α}{f:α→Option Hv}{E Q}(d:Dn (obnd x f) E Q)(e:x=none):E:=by cases e;exact d.no rfl
theorem ne_it {t:It}{l:L8}{R:Bool→Prop}(h1:eqF l t=none→R true)(h2:∀u,eqF l t=some u→R false):zNe (itU t) (.bytes l) R:=by
 cases t with
 |l=>exact h1 rfl
 |b x=>exact zif (fun z=>h1 (if_neg z)) fun z=>h2 () (if_pos (Decidable.byContradiction z))
theorem slL {a b c d e f g h i j k l m n o p q:U}{Q:U→Prop}(z:Q (.list [i,j,k,l])):zSlc (some 8) (some 12) (.list [a,b,c,d,e,f,g,h,i,j,k,l,m,n,o,p,q]) Q:=by
 unfold zSlc;exact .mk (gd_ (show 17≤1000 by decide) z)
theorem read_root_F {n:Nat}{t:It}{K Q E}(hl:(enc t).length≤100000)(he:rootF t=none→E 1 K)(q:∀l,rootF t=some l→Q (.bytes l) K):zF code (n+1) 24 [itU t] K Q E:=
 read_root_it hl (fun z=>he (by
  cases t with
  |l=>rfl
  |b l=>exact if_neg fun y=>by rw [show fixF 32 (.b l)=some (valB l) from if_pos y] at z;cases z)) fun l e h=>q l (e▸if_pos h)
noncomputable abbrev rowL (t:Nat→It)(u:U):List U:=[itU (t 0),itU (t 1),itU (t 2),itU (t 3),itU (t 4),itU (t 5),itU (t 6),itU (t 7),itU (t 8),itU (t 9),itU (t 10),itU (t 11),u,itU (t 13),itU (t 14),itU (t 15),itU (t 16)]
inductive Ex12:U→Option L8→Prop
 |lst (us):Ex12 (.list us) none
 |byt (l:L8):l.length≤100000→Ex12 (.bytes l) (if l.length≤32 then some l else none)
theorem ex12 {t:It}(hl:(enc t).length≤100000):Ex12 (itU t) (exF t):=by
 cases t with
 |l ts=>exact .lst _
 |b l=>exact .byt l (enc_b hl)
set_option maxHeartbeats 400000 in
theorem read_rows_hd {n b m:Nat}{o:L8}{t:Nat→It}{u:U}{K Q E}(hb:3≤b∧b≤6)(hk:KU m K)(hl:∀i,i<17→(enc (t i)).length≤100000)(h12:Ex12 u (exF (t 12)))(d:Dn (hdF b m t) (E 1 K) fun h=>Q (HdO h.val) K) :
  zSs (zch (n+66)) (c_read_header.body.drop 2) [.val (.bytes o),.val .dig,.val (.int b),.val (.list (rowL t u)),.unb,.unb,.unb,.unb,.unb,.unb,.unb] K (retZ Q) (errZ E):=by
 refine no_uncles_ok hk ?_
 refine ne_it (t:=t 1) (fun e=>d.n e) fun ω e=>?_
 replace d:=d.s e
 refine ne_it (t:=t 7) (fun e=>d.n e) fun ω e=>?_
 replace d:=d.s e
 refine ne_it (t:=t 14) (fun e=>d.n e) fun ω e=>?_
 replace d:=d.s e
 refine slL ⟨show 4≤1000000 by decide,?_⟩
 refine read_num_it (B:=2^64) (t:=t 8) rfl (by decide) (hl 8 (by decide)) (fun e=>d.n e) fun nu e=>?_
 replace d:=d.s e
 refine read_num_it (B:=2^64) (t:=t 9) rfl (by decide) (hl 9 (by decide)) (fun e=>d.n e) fun li e=>?_
 replace d:=d.s e
 refine read_num_it (B:=2^64) (t:=t 10) rfl (by decide) (hl 10 (by decide)) (fun e=>d.n e) fun us e=>?_
 replace d:=d.s e
 refine read_num_it (B:=2^64) (t:=t 11) rfl (by decide) (hl 11 (by decide)) (fun e=>d.n e) fun ti e=>?_
 replace d:=d.s e
 generalize exF (t 12)=x12 at h12 d
 cases h12 with
 |lst us=>exact d.n rfl
 |byt l hll=>
 refine ⟨l24 hll,zif (fun h=>d.n (if_neg fun z=>absurd (Int.ofNat_le.mpr z) (Int.not_le.mpr h))) fun h=>?_⟩
 replace d:=d.s (if_pos (Int.ofNat_le.mp (Int.not_lt.mp h)))
 refine read_num_it (B:=2^256) (t:=t 15) rfl (by decide) (hl 15 (by decide)) (fun e=>d.n e) fun fe e=>?_
 replace d:=d.s e
 refine read_fix_it (k:=20) (t:=t 2) rfl (by decide) (hl 2 (by decide)) (fun e=>d.n e) fun be e=>?_
 replace d:=d.s e
 refine read_fix_it (k:=32) (t:=t 13) rfl (by decide) (hl 13 (by decide)) (fun e=>d.n e) fun ra e=>?_
 replace d:=d.s e
 refine ⟨show 4≤1000000 by decide,?_⟩
 refine read_root_F (t:=t 3) (hl 3 (by decide)) (fun e=>d.n e) fun r0 e=>?_
 replace d:=d.s e
 refine read_root_F (t:=t 4) (hl 4 (by decide)) (fun e=>d.n e) fun r1 e=>?_
 replace d:=d.s e
 refine read_root_F (t:=t 5) (hl 5 (by decide)) (fun e=>d.n e) fun r2 e=>?_
 replace d:=d.s e
 refine read_root_F (t:=t 16) (hl 16 (by decide)) (fun e=>d.n e) fun r3 e=>?_
 replace d:=d.s e
 refine read_root_F (t:=t 0) (hl 0 (by decide)) (fun e=>d.n e) fun pa e=>?_
 replace d:=d.s e
 refine read_bloom_ok (t:=t 6) hb (hl 6 (by decide)) (fun e=>d.n e) fun bl e=>?_
 replace d:=d.s e
 exact d.yes _ rfl
end Internal
end
section
namespace Internal
noncomputable def row (ts:List It)(i:Nat):It:=ts.getD i (.l [])
theorem range_row (ts:List It):ts=(List.range ts.length).map (row ts):=
 List.ext_getElem (by rw [List.length_map,List.length_range]) fun i h1 h2=>by
  rw [List.getElem_map,List.getElem_range,row,List.getD_eq_getElem?_getD,List.getElem?_eq_getElem h1];rfl
theorem row17 {ts:List It}(h:ts.length=17):itUs ts=rowL (row ts) (itU (row ts 12)):=(congrArg itUs ((range_row ts).trans (by rw [h]))).trans rfl
theorem row_enc {ts:List It}(h:ts.length=17)(hl:(enc (.l ts)).length≤100000)(i:Nat)(hi:i<17):(enc (row ts i)).length≤100000:=
 enc_row hl (by rw [row,List.getD_eq_getElem?_getD,List.getElem?_eq_getElem (h▸hi)];exact List.getElem_mem _)
theorem hdF_ts {b m:Nat}{ts:List It}{h:Hv}(hb:3≤b∧b≤6)(l:ts.length=17)(e:hdF b m (row ts)=some h):HvT b m h=.l ts∧HvOK b h:=by
 have ⟨a,ok⟩:=hdF_some hb e
 rw [←l,←range_row] at a
 exact ⟨a,ok⟩
set_option maxHeartbeats 400000 in
theorem read_header_ok {n b m:Nat}{o:L8}{K Q E}(hb:3≤b∧b≤6)(hk:KU m K)(ho:o.length≤100000)(he:(∀ts,enc (.l ts)=o→ts.length=17→hdF b m (row ts)=none)→E 1 K)
  (q:∀ts h,enc (.l ts)=o→ts.length=17→hdF b m (row ts)=some h→Q (HdO h.val) K):zF code (n+67) 25 [.bytes o,.dig,.int b] K Q E:=by
 refine zo rfl rfl (decoded_ok (Nat.le_add_left 66 n) ho (fun hn=>he fun ts e l=>?_) fun t e hd=>?_)
 ·cases x:hdF b m (row ts) with
  |none=>rfl
  |some h=>exact absurd (Nat.le_trans ((hdF_ts hb l x).1▸dep_bs (HvL b m h):dep (.l ts)≤1) (by decide)) (hn _ e)
 subst e
 have uq:∀{ts},enc (.l ts)=enc t→.l ts=t:=fun {ts} e=>enc_inj _ _ _ ho (e▸List.prefix_refl _) (List.prefix_refl _)
 cases t with
 |b l=>exact he fun ts e ω=>by cases uq e
 |l ts=>
 have lus:ts.length≤100000:=Nat.le_trans (encs_len ts) (enc_l ho)
 refine ⟨by rw [itUs_len];exact l6 lus,zif (fun h=>he fun ts' e l=>?_) fun h=>?_⟩
 ·cases uq e
  exact absurd (congrArg Int.ofNat ((itUs_len ts).trans l)) h
 have h:ts.length=17:=Decidable.byContradiction fun z=>h fun y=>z (by rw [itUs_len] at y;exact Int.ofNat.inj y)
 have r:=row_enc h ho
 have:=read_rows_hd (n:=n) (o:=enc (.l ts)) (Q:=Q) (E:=E) hb hk r (ex12 (r 12 (by decide))) ⟨fun z=>he fun ts' e ω=>by cases uq e;exact z,fun h' z=>q ts h' rfl h z⟩
 rw [←row17 h] at this
 exact this
end Internal
end
section
namespace Internal
noncomputable def kC:List String:=["parent", "beneficiary", "state_root", "transactions_root", "receipts_root", "withdrawals_root", "bloom", "number", "limit", "used", "time", "extra", "random", "base_fee"]
noncomputable def vC (g:Hg):List U:=[g .parent,g .ben,g .sroot,g .troot,g .rroot,g .wroot,g .bloom,g .number,g .limit,g .used,g .time,g .extra,g .random,g .fee]
set_option maxHeartbeats 400000 in
theorem told_head_ok {n b m:Nat}{o:L8}{K Q E}(hb:3≤b∧b≤6)(hk:KU m K)(ho:o.length≤100000)(hn:(∀ts,enc (.l ts)=o→ts.length=17→hdF b m (row ts)=none)→Q .none K)
  (q:∀ts h,enc (.l ts)=o→ts.length=17→hdF b m (row ts)=some h→Q (.dict kC (vC h.val)) K):zF code (n+68) 48 [.bytes o,.dig,.int b] K Q E:=by
 refine zo rfl rfl (read_header_ok hb hk ho (fun h=>hn h) fun ts h e l x=>?_)
 refine zat _ rfl (zat _ rfl (zat _ rfl (zat _ rfl ?_)))
 refine zat _ rfl (zat _ rfl (zat _ rfl (zat _ rfl ?_)))
 refine zat _ rfl (zat _ rfl (zat _ rfl ?_))
 refine zat _ rfl (zat _ rfl (zat _ rfl ?_))
 exact q ts h e l x
end Internal
end
section
namespace Internal
noncomputable def optB (r:Option L8):U:=Option.rec .none (fun l=>.bytes l) r
noncomputable def hdG (pa r0 r1 r2 r3 ex:Option L8)(be bl nu li us ti ra fe:Option Nat):Hg:=F.rec (optB pa) (optU be) (optB r0) (optB r1) (optB r2) (optB r3) (optU bl) (optU nu) (optU li) (optU us) (optU ti) (optB ex) (optU ra) (optU fe)
noncomputable def hdC (pa r0 r1 r2 r3 ex:Option L8)(be bl nu li us ti ra fe:Option Nat):Option Hv:=
 obnd nu fun nu=>obnd li fun li=>obnd us fun us=>obnd ti fun ti=>obnd ex fun ex=>obnd fe fun fe=>obnd be fun be=>obnd ra fun ra=>
 obnd r0 fun r0=>obnd r1 fun r1=>obnd r2 fun r2=>obnd r3 fun r3=>obnd pa fun pa=>obnd bl fun bl=>some ⟨pa,r0,r1,r2,r3,ex,be,bl,nu,li,us,ti,ra,fe⟩
inductive Out (R:Option Hv)(g:Hg):Prop
 |good (h:Hv):R=some h→g=h.val→Out R g
 |bad (f:F):R=none→g f=.none→Out R g
theorem out (pa r0 r1 r2 r3 ex:Option L8)(be bl nu li us ti ra fe:Option Nat):Out (hdC pa r0 r1 r2 r3 ex be bl nu li us ti ra fe) (hdG pa r0 r1 r2 r3 ex be bl nu li us ti ra fe):=by
 cases nu with |none=>exact .bad .number rfl rfl |some nu=>
 cases li with |none=>exact .bad .limit rfl rfl |some li=>
 cases us with |none=>exact .bad .used rfl rfl |some us=>
 cases ti with |none=>exact .bad .time rfl rfl |some ti=>
 cases ex with |none=>exact .bad .extra rfl rfl |some ex=>
 cases fe with |none=>exact .bad .fee rfl rfl |some fe=>
 cases be with |none=>exact .bad .ben rfl rfl |some be=>
 cases ra with |none=>exact .bad .random rfl rfl |some ra=>
 cases r0 with |none=>exact .bad .sroot rfl rfl |some r0=>
 cases r1 with |none=>exact .bad .troot rfl rfl |some r1=>
 cases r2 with |none=>exact .bad .rroot rfl rfl |some r2=>
 cases r3 with |none=>exact .bad .wroot rfl rfl |some r3=>
 cases pa with |none=>exact .bad .parent rfl rfl |some pa=>
 cases bl with |none=>exact .bad .bloom rfl rfl |some bl=>
 exact .good _ rfl rfl
theorem optB_flat (r:Option L8):flatInU .none (optB r)=true:=by cases r<;>rfl
theorem optU_flat (r:Option Nat):flatInU .none (optU r)=true:=by cases r<;>rfl
theorem hdG_flat {pa r0 r1 r2 r3 ex:Option L8}{be bl nu li us ti ra fe:Option Nat}(f:F):flatInU .none (hdG pa r0 r1 r2 r3 ex be bl nu li us ti ra fe f)=true:=
 F.rec (optB_flat _) (optU_flat _) (optB_flat _) (optB_flat _) (optB_flat _) (optB_flat _) (optU_flat _) (optU_flat _) (optU_flat _) (optU_flat _) (optU_flat _) (optB_flat _) (optU_flat _) (optU_flat _) f
noncomputable def kB:List String:=["bloom", "beneficiary", "number", "limit", "used", "time", "random", "base_fee", "parent", "state_root", "transactions_root", "receipts_root", "withdrawals_root", "extra"]
noncomputable def vB' (g:Hg):List U:=[g .bloom,g .ben,g .number,g .limit,g .used,g .time,g .random,g .fee,g .parent,g .sroot,g .troot,g .rroot,g .wroot,g .extra]
theorem hasB (g:Hg):HasH kB (vB' g) g:=F.rec rfl rfl rfl rfl rfl rfl rfl rfl rfl rfl rfl rfl rfl rfl
theorem hasC (g:Hg):HasH kC (vC g) g:=F.rec rfl rfl rfl rfl rfl rfl rfl rfl rfl rfl rfl rfl rfl rfl
end Internal
end
section
namespace Internal
theorem mem_F:∀f:F,f∈allF':=
 have h:∀{f:F} (i:Nat),allF'[i]? = some f→f∈allF':=fun i e=>List.mem_of_getElem? e
 F.rec (h 0 rfl) (h 1 rfl) (h 2 rfl) (h 3 rfl) (h 4 rfl) (h 5 rfl) (h 6 rfl) (h 7 rfl) (h 8 rfl) (h 9 rfl) (h 10 rfl) (h 11 rfl) (h 12 rfl) (h 13 rfl)
theorem any_none {g:Hg}(f:F)(h:g f=.none):(allF'.map g).any (flatEqU .none)=true:=List.any_eq_true.mpr ⟨_,List.mem_map_of_mem (mem_F f),by rw [h];rfl⟩
theorem any_val (h:Hv):(allF'.map h.val).any (flatEqU .none)=false:=rfl
set_option maxHeartbeats 400000 in
theorem heard_tail {n:Nat}{R:Option Hv}{ks us}{g:Hg}{s0 s1 s2 s3 s5 s6 s7 s8:Sl}{K Q E}(H:HasH ks us g)(fl:∀f,flatInU .none (g f)=true)(o:Out R g)(d:Dn R (Q .none K) fun h=>g=h.val→Q (.dict ks us) K) :
  zSs (zch n) (c__law_heard_head.body.drop 8) [s0,s1,s2,s3,.gdict ks us,s5,s6,s7,s8] K (retZ Q) (errZ E):=by
 refine ⟨show 14≤1000000 by decide,?_⟩
 refine zcl (fun f:F=>U.str f.name) g allF' (fun f mf acc k q=>H.get f q) ?_
 refine zin (List.all_eq_true.mpr fun u mu=>?_) (fun a=>?_) fun a=>?_
 ·obtain ⟨f,_,rfl⟩:=List.mem_map.mp mu
  exact fl f
 ·cases o with
  |good h e1 e2=>rw [e2] at a;exact absurd (a.symm.trans (any_val h)) (by decide)
  |bad f e1 e2=>exact d.no e1
 ·cases o with
  |good h e1 e2=>exact d.yes h e1 e2
  |bad f e1 e2=>exact absurd (a.symm.trans (any_none f e2)) (by decide)
end Internal
end
section
namespace Internal
theorem fix32_root (t:It):(fixF 32 t=none∧rootF t=none)∨∃v l,fixF 32 t=some v∧rootF t=some l∧itU t=.bytes l:=by
 cases t with
 |l ts=>exact .inl ⟨rfl,rfl⟩
 |b l=>exact (Decidable.em (l.length=32)).elim (fun h=>.inr ⟨_,l,if_pos h,if_pos h,rfl⟩) fun h=>.inl ⟨if_neg h,if_neg h⟩
theorem selB {t:It}{ch:CZ}{s0 s1 s2 s3 s4 s5 s6 s7:Sl}{K:KS}{Q:ZQ}{E:ZE}(q:Q (optB (rootF t)) K) :
  cond (isN (optU (fixF 32 t))) (zX ch (.cst .none) [s0,s1,s2,s3,s4,s5,s6,s7,.val (itU t)] K Q E) (zX ch (.loc 8) [s0,s1,s2,s3,s4,s5,s6,s7,.val (itU t)] K Q E):=by
 rcases fix32_root t with ⟨a,b⟩ |⟨v,l,a,b,c⟩
 ·rw [a];rw [b] at q;exact q
 ·rw [a,c];rw [b] at q;exact q
noncomputable abbrev hb_:List S:=c__law_heard_head.body
section
variable {n:Nat}{t:Nat→It}{o b m u x6 x2:U}{K:KS}{Q:ZS}{E:ZEs}
set_option maxHeartbeats 400000 in
theorem hd_3 {s5 s6 s7 s8:Sl}(hl:∀i,i<17→(enc (t i)).length≤100000)
  (q:zSs (zch (n+66)) (hb_.drop 4) [.val o,.val b,.val m,.val (.list (rowL t u)),.gdict ["bloom", "beneficiary", "number", "limit", "used", "time"] [x6,x2,optU (numF (2^64) (t 8)),optU (numF (2^64) (t 9)),optU (numF (2^64) (t 10)),optU (numF (2^64) (t 11))],.val (.int 3),.val (.str "time"),s7,s8] K Q E) :
  zSs (zch (n+66)) (hb_.drop 3) [.val o,.val b,.val m,.val (.list (rowL t u)),.gdict ["bloom", "beneficiary"] [x6,x2],s5,s6,s7,s8] K Q E:=by
 refine powN 2 64 rfl rfl (by decide) (by decide) ?_
 refine law_num_it (t:=t 8) (B:=2^64) rfl (by decide) (hl 8 (by decide)) ?_
 refine powN 2 64 rfl rfl (by decide) (by decide) ?_
 refine law_num_it (t:=t 9) (B:=2^64) rfl (by decide) (hl 9 (by decide)) ?_
 refine powN 2 64 rfl rfl (by decide) (by decide) ?_
 refine law_num_it (t:=t 10) (B:=2^64) rfl (by decide) (hl 10 (by decide)) ?_
 refine powN 2 64 rfl rfl (by decide) (by decide) ?_
 refine law_num_it (t:=t 11) (B:=2^64) rfl (by decide) (hl 11 (by decide)) ?_
 exact q
end
end Internal
end
section
namespace Internal
section
variable {n:Nat}{t:Nat→It}{o b m u x1 x2 x3 x4 x5 x6 x7 x8:U}{K:KS}{Q:ZS}{E:ZEs}{s5 s6 s7 s8:Sl}
noncomputable abbrev placesU:U:=.dict ["parent", "state_root", "transactions_root", "receipts_root", "withdrawals_root"] [.int 0,.int 3,.int 4,.int 5,.int 16]
set_option maxHeartbeats 400000 in
theorem hd_4 (hl:∀i,i<17→(enc (t i)).length≤100000)
  (q:zSs (zch (n+66)) (hb_.drop 6) [.val o,.val b,.val m,.val (.list (rowL t u)),.gdict ["bloom", "beneficiary", "number", "limit", "used", "time", "random", "base_fee"] [x1,x2,x3,x4,x5,x6,optU (fixF 32 (t 13)),optU (numF (2^256) (t 15))],s5,s6,.val placesU,s8] K Q E) :
  zSs (zch (n+66)) (hb_.drop 4) [.val o,.val b,.val m,.val (.list (rowL t u)),.gdict ["bloom", "beneficiary", "number", "limit", "used", "time"] [x1,x2,x3,x4,x5,x6],s5,s6,s7,s8] K Q E:=by
 refine law_fix_it (t:=t 13) (k:=32) rfl (by decide) (hl 13 (by decide)) ?_
 refine powN 2 256 rfl rfl (by decide) (by decide) ?_
 refine law_num_it (t:=t 15) (B:=2^256) rfl (by decide) (hl 15 (by decide)) ?_
 exact q
theorem stB {ch:CZ}{s0 s1 s2 s3 s7 s8:Sl}{ks ks':List String}{us us':List U}{x:String}{v:U}{k:List Sl→KS→Prop}{E:ZEs}(e1:(decide (ks.length≤1000),setKs x ks)=(true,ks'))(e2:setV x v ks us=us')(h:k [s0,s1,s2,s3,.gdict ks' us',s5,.val (.str x),s7,s8] K) :
  zTg ch (.sub (.loc 4) (.loc 6)) v [s0,s1,s2,s3,.gdict ks us,s5,.val (.str x),s7,s8] K k E:=by
 have z:k [s0,s1,s2,s3,.gdict (setKs x ks) (setV x v ks us),s5,.val (.str x),s7,s8] K:=by
  rw [show setKs x ks=ks' from congrArg Prod.snd e1,e2];exact h
 have g:gd (ks.length≤1000) (k [s0,s1,s2,s3,.gdict (setKs x ks) (setV x v ks us),s5,.val (.str x),s7,s8] K):=by
  unfold gd;rw [show decide (ks.length≤1000)=true from congrArg Prod.fst e1];exact z
 exact g
set_option maxHeartbeats 1000000 in
theorem hd_6 (hl:∀i,i<17→(enc (t i)).length≤100000)
  (q:zSs (zch (n+66)) (hb_.drop 7) [.val o,.val b,.val m,.val (.list (rowL t u)),.gdict ["bloom", "beneficiary", "number", "limit", "used", "time", "random", "base_fee", "parent", "state_root", "transactions_root", "receipts_root", "withdrawals_root"]
   [x1,x2,x3,x4,x5,x6,x7,x8,optB (rootF (t 0)),optB (rootF (t 3)),optB (rootF (t 4)),optB (rootF (t 5)),optB (rootF (t 16))],s5,.val (.str "withdrawals_root"),.val placesU,.val (itU (t 16))] K Q E) :
  zSs (zch (n+66)) (hb_.drop 6) [.val o,.val b,.val m,.val (.list (rowL t u)),.gdict ["bloom", "beneficiary", "number", "limit", "used", "time", "random", "base_fee"] [x1,x2,x3,x4,x5,x6,x7,x8],s5,s6,.val placesU,s8] K Q E:=by
 refine law_fix_it (t:=t 0) (k:=32) rfl (by decide) (hl 0 (by decide)) (selB (stB rfl rfl ?_))
 refine law_fix_it (t:=t 3) (k:=32) rfl (by decide) (hl 3 (by decide)) (selB (stB rfl rfl ?_))
 refine law_fix_it (t:=t 4) (k:=32) rfl (by decide) (hl 4 (by decide)) (selB (stB rfl rfl ?_))
 refine law_fix_it (t:=t 5) (k:=32) rfl (by decide) (hl 5 (by decide)) (selB (stB rfl rfl ?_))
 refine law_fix_it (t:=t 16) (k:=32) rfl (by decide) (hl 16 (by decide)) (selB (stB rfl rfl ?_))
 exact q
end
end Internal
end
section
namespace Internal
section
variable {n:Nat}{t:Nat→It}{o b m u x1 x2 x3 x4 x5 x6 x7 x8 y1 y2 y3 y4 y5:U}{K:KS}{Q:ZS}{E:ZEs}{s5 s6 s7 s8:Sl}
theorem exSel {x:Option L8}{Q:ZQ}{E:ZE}{s0 s1 s2:Sl}{r:List Sl}{ch:CZ}(h12:Ex12 u x)(q:Q (optB x) K) :
  zX ch (.ite (.or [.val (.isi (.sub (.loc 3) (.cst (.int 12))) .list),.cmp (.len (.sub (.loc 3) (.cst (.int 12)))) [.gt] [.cst (.int 32)]]) (.cst .none) (.sub (.loc 3) (.cst (.int 12)))) (s0::s1::s2::.val (.list (rowL t u))::r) K Q E:=by
 cases h12 with
 |lst us=>exact q
 |byt l hl=>
 refine ⟨l24 hl,zif (fun h=>?_) fun h=>?_⟩
 ·rw [if_neg (fun z=>absurd (Int.ofNat_le.mpr z) (Int.not_le.mpr h))] at q;exact q
 ·rw [if_pos (Int.ofNat_le.mp (Int.not_lt.mp h))] at q;exact q
set_option maxHeartbeats 400000 in
theorem hd_7 {x:Option L8}(h12:Ex12 u x)
  (q:zSs (zch (n+66)) (hb_.drop 8) [.val o,.val b,.val m,.val (.list (rowL t u)),.gdict kB [x1,x2,x3,x4,x5,x6,x7,x8,y1,y2,y3,y4,y5,optB x],s5,s6,s7,s8] K Q E) :
  zSs (zch (n+66)) (hb_.drop 7) [.val o,.val b,.val m,.val (.list (rowL t u)),.gdict ["bloom", "beneficiary", "number", "limit", "used", "time", "random", "base_fee", "parent", "state_root", "transactions_root", "receipts_root", "withdrawals_root"]
   [x1,x2,x3,x4,x5,x6,x7,x8,y1,y2,y3,y4,y5],s5,s6,s7,s8] K Q E:=by
 refine exSel h12 ?_
 exact q
end
end Internal
end
section
namespace Internal
set_option maxHeartbeats 400000 in
theorem heard_rows_hd {n b m:Nat}{o:L8}{t:Nat→It}{u:U}{K Q E}(hb:3≤b∧b≤6)(hl:∀i,i<17→(enc (t i)).length≤100000)(h12:Ex12 u (exF (t 12)))
  (q:zSs (zch (n+66)) (hb_.drop 3) [.val (.bytes o),.val (.int b),.val (.bytes (fmt m)),.val (.list (rowL t u)),.gdict ["bloom", "beneficiary"] [optU (fixF (2^b/8) (t 6)),optU (fixF 20 (t 2))],.unb,.unb,.unb,.unb] K (retZ Q) (errZ E)) :
  zSs (zch (n+66)) (hb_.drop 2) [.val (.bytes o),.val (.int b),.val (.bytes (fmt m)),.val (.list (rowL t u)),.unb,.unb,.unb,.unb,.unb] K (retZ Q) (errZ E):=by
 refine powN 2 b rfl rfl (by decide) (Nat.le_trans hb.2 (by decide)) ?_
 refine law_fix_it (t:=t 6) (k:=2^b/8) rfl (Nat.le_trans (bits_f hb).1 (by decide)) (hl 6 (by decide)) ?_
 refine law_fix_it (t:=t 2) (k:=20) rfl (by decide) (hl 2 (by decide)) ?_
 exact q
theorem heard_mid {n b m:Nat}{o:L8}{t:Nat→It}{u:U}{K Q E}(hb:3≤b∧b≤6)(hl:∀i,i<17→(enc (t i)).length≤100000)(h12:Ex12 u (exF (t 12)))
  (d:Dn (hdC (rootF (t 0)) (rootF (t 3)) (rootF (t 4)) (rootF (t 5)) (rootF (t 16)) (exF (t 12)) (fixF 20 (t 2)) (fixF (2^b/8) (t 6)) (numF (2^64) (t 8)) (numF (2^64) (t 9)) (numF (2^64) (t 10)) (numF (2^64) (t 11)) (fixF 32 (t 13)) (numF (2^256) (t 15))) (Q .none K) fun h=>Q (.dict kB (vB' h.val)) K) :
  zSs (zch (n+66)) (hb_.drop 2) [.val (.bytes o),.val (.int b),.val (.bytes (fmt m)),.val (.list (rowL t u)),.unb,.unb,.unb,.unb,.unb] K (retZ Q) (errZ E):=
 heard_rows_hd hb hl h12 (hd_3 hl (hd_4 hl (hd_6 hl (hd_7 h12 (heard_tail (hasB (hdG (rootF (t 0)) (rootF (t 3)) (rootF (t 4)) (rootF (t 5)) (rootF (t 16)) (exF (t 12)) (fixF 20 (t 2)) (fixF (2^b/8) (t 6)) (numF (2^64) (t 8)) (numF (2^64) (t 9)) (numF (2^64) (t 10)) (numF (2^64) (t 11)) (fixF 32 (t 13)) (numF (2^256) (t 15)))) hdG_flat (out ..) ⟨d.no,fun h e g=>(congrArg (fun g=>Q (.dict kB (vB' g)) K) g).mpr (d.yes h e)⟩)))))
end Internal
end
section
namespace Internal
set_option maxHeartbeats 400000 in
theorem heard_head_ok {n b m:Nat}{o:L8}{K Q E}(hN:o.length+2≤n+66)(hb:3≤b∧b≤6)(ho:o.length≤100000)(hn:(∀ts,enc (.l ts)=o→ts.length=17→hdF b m (row ts)=none)→Q .none K)
  (q:∀ts h,enc (.l ts)=o→ts.length=17→hdF b m (row ts)=some h→Q (.dict kB (vB' h.val)) K):zF code (n+67) 46 [.bytes o,.int b,.bytes (fmt m)] K Q E:=by
 refine zo rfl rfl (law_list_ok (c:=17) (p:=0) hN ho (Nat.zero_le _) (fun z=>hn fun ts e l=>absurd e.symm (z ts l)) fun ts l e=>?_)
 have e:o=enc (.l ts):=e
 subst e
 have uq:∀{ts'},enc (.l ts')=enc (.l ts)→It.l ts'=.l ts:=fun {ts'} e=>enc_inj _ _ _ ho (e▸List.prefix_refl _) (List.prefix_refl _)
 have r:=row_enc l ho
 have d:Dn (hdF b m (row ts)) (Q .none K) fun h=>Q (.dict kB (vB' h.val)) K:=⟨fun z=>hn fun ts' e ω=>by cases uq e;exact z,fun h' z=>q ts h' rfl l z⟩
 have go:zSs (zch (n+66)) (hb_.drop 1) [.val (.bytes (enc (.l ts))),.val (.int b),.val (.bytes (fmt m)),.val (.list (rowL (row ts) (itU (row ts 12)))),.unb,.unb,.unb,.unb,.unb] K (retZ Q) (errZ E):=by
  refine ne_it (t:=row ts 1) (fun e=>d.n e) fun ω e=>?_
  replace d:=d.s e
  refine ne_it (t:=row ts 7) (fun e=>d.n e) fun ω e=>?_
  replace d:=d.s e
  refine ne_it (l:=zeros8) (t:=row ts 14) (fun e=>d.n e) fun ω e=>?_
  replace d:=d.s e
  exact heard_mid hb r (ex12 (r 12 (by decide))) d
 rw [←row17 l] at go
 exact go
end Internal
end
section
namespace Internal
theorem KU.first {k m:Nat}{K':KS}(e:k=k192)(o:OfR k m [] K'):KU m K':=by
 cases o with
 |old z=>exact absurd z List.not_mem_nil
 |new z=>exact ⟨e▸.head _,fun p hp ω=>by rw [List.mem_singleton.mp hp],show 1≤800 by decide⟩
theorem KU.next {k m x:Nat}{K K':KS}(h:KU m K)(l:K.length<800)(o:OfR k x K K'):KU m K':=by
 cases o with
 |old z=>exact h
 |new z=>
  refine ⟨List.mem_append_left _ h.mem,fun p hp e=>(List.mem_append.mp hp).elim (fun y=>h.uni p y e) fun y=>?_,by rw [List.length_append];exact l⟩
  rw [List.mem_singleton.mp y] at e
  exact absurd e.symm (z _ h.mem)
theorem OfR.same {k m x:Nat}{K K' K'':KS}(h:OfR k x K K')(g:OfR k m K' K'')(u:∀p∈K,∀r∈K,p.1=r.1→p.2=r.2):m=x∧K''=K':=by
 cases h with
 |old z=>
  cases g with
  |old y=>exact ⟨u _ y _ z rfl,rfl⟩
  |new y=>exact absurd rfl (y _ z)
 |new z=>
  cases g with
  |old y=>exact ⟨(List.mem_append.mp y).elim (fun y=>absurd rfl (z _ y)) fun y=>(Prod.mk.inj (List.mem_singleton.mp y)).2,rfl⟩
  |new y=>exact absurd rfl (y _ (List.mem_append_right _ (.head _)))
end Internal
end
section
namespace Internal
theorem dict_eq {ks us kt ut}{R:Bool→Prop}(a:ks.length=kt.length)(b:us.length=ut.length)(c:sameDict kt ut ks us)(q:R true):zEqU (.dict ks us) (.dict kt ut) R:=by
 unfold zEqU;exact .mk (.inr (.inr ⟨ks,us,kt,ut,rfl,rfl,a,b,c,q⟩))
theorem same_CA (h:Hv):sameDict kA (vA h.val) kC (vC h.val):=⟨⟨rfl,rfl⟩,⟨rfl,rfl⟩,⟨rfl,rfl⟩,⟨rfl,rfl⟩,⟨rfl,rfl⟩,⟨rfl,rfl⟩,⟨rfl,rfl⟩,⟨rfl,rfl⟩,⟨rfl,rfl⟩,⟨rfl,rfl⟩,⟨rfl,rfl⟩,⟨rfl,rfl⟩,⟨rfl,rfl⟩,⟨rfl,rfl⟩,trivial⟩
theorem same_BC (h:Hv):sameDict kC (vC h.val) kB (vB' h.val):=⟨⟨rfl,rfl⟩,⟨rfl,rfl⟩,⟨rfl,rfl⟩,⟨rfl,rfl⟩,⟨rfl,rfl⟩,⟨rfl,rfl⟩,⟨rfl,rfl⟩,⟨rfl,rfl⟩,⟨rfl,rfl⟩,⟨rfl,rfl⟩,⟨rfl,rfl⟩,⟨rfl,rfl⟩,⟨rfl,rfl⟩,⟨rfl,rfl⟩,trivial⟩
end Internal
end
section
namespace Internal
theorem first_ {k m:Nat}{K':KS}(o:OfR k m [] K'):K'=[(k,m)]:=by
 cases o with
 |old z=>exact absurd z List.not_mem_nil
 |new z=>rfl
theorem one_uni {a:Nat×Nat}:∀p∈[a],∀r∈[a],p.1=r.1→p.2=r.2:=fun p hp r hr ω=>by rw [List.mem_singleton.mp hp,List.mem_singleton.mp hr]
theorem hdF_HvB {b m:Nat}{h:Hv}(hb:3≤b∧b≤6)(ok:HvOK b h)(hl:(HvB b m h).length≤100000){ts:List It}(e:enc (.l ts)=HvB b m h):hdF b m (row ts)=some h:=by
 cases enc_inj (.l ts) (HvT b m h) _ hl (e▸List.prefix_refl _) (List.prefix_refl _)
 exact hdF_HvT hb ok
theorem bthH {n b m:Nat}{o:L8}{K}{Q:U→U→KS→Prop}{E}(hN:o.length+2≤n+67)(hb:3≤b∧b≤6)(hk:KU m K)(ho:o.length≤100000)
  (hn:(∀ts,enc (.l ts)=o→ts.length=17→hdF b m (row ts)=none)→Q .none .none K)(hq:∀h,HvOK b h→HvB b m h=o→Q (.dict kB (vB' h.val)) (.dict kC (vC h.val)) K) :
  zF code (n+68) 46 [.bytes o,.int b,.bytes (fmt m)] K (fun u K=>zF code (n+68) 48 [.bytes o,.dig,.int b] K (fun v K=>Q u v K) E) E:=
 heard_head_ok (n:=n+1) hN hb ho (fun z=>told_head_ok hb hk ho (fun ω=>hn z) fun ts h e l x=>absurd ((z ts e l).symm.trans x) (Option.some_ne_none h).symm) fun ts h e l x=>
  told_head_ok hb hk ho (fun z=>absurd ((z ts e l).symm.trans x) (Option.some_ne_none h).symm) fun ts' h' e' l' x'=>by
   cases enc_inj (.l ts) (.l ts') _ ho (e▸List.prefix_refl _) (e'▸List.prefix_refl _)
   cases x.symm.trans x'
   have ⟨a,ok⟩:=hdF_ts hb l x
   exact hq h ok ((congrArg enc a).trans e)
set_option maxHeartbeats 400000 in
theorem head_right_ok {n b:Nat}{Q E}(hb:3≤b∧b≤6)(q:∀K,Q (.bool true) K):zF code (n+680) 51 [.well,.int b,.dig] [] Q E:=by
 refine zo rfl rfl (law_head_ok hb fun h ok=>?_)
 refine ⟨⟨show 1≤100000 by decide,show 0≤900 by decide⟩,fun m K1 o1=>?_⟩
 have k1:KU m K1:=KU.first rfl o1
 have K1e:=first_ o1
 have hl:=HvB_len (b:=b) (m:=m) hb ok.1
 have h1:=HvB_1 ok.1
 refine law_head_octets_ok hb (hasA h.val) ok ?_
 refine made_head_ok (hasA h.val) ?_
 refine header_octets_ok hb h1.1 h1.2 k1 (fun z=>absurd ok z) fun ω=>zf (fun z=>z rfl) ?_
 have l1:K1.length=1:=by rw [K1e];rfl
 refine header_hash_ok hb k1 ok ⟨⟨Nat.le_trans hl.2 (by decide),Nat.le_trans k1.len (by decide)⟩,fun x K2 o2=>?_⟩
 have k2:KU m K2:=k1.next (l1▸by decide) o2
 refine ⟨⟨Nat.le_trans hl.2 (by decide),Nat.le_trans k2.len (by decide)⟩,fun y K3 o3=>?_⟩
 have ⟨e1,e2⟩:=o2.same o3 (by rw [K1e];exact one_uni)
 subst e1 e2
 refine zf (fun z=>z rfl) ?_
 have l5:(HvB b m h).length≤100000:=Nat.le_trans hl.2 (by decide)
 have no:∀{P:Prop},(∀ts,enc (.l ts)=HvB b m h→ts.length=17→hdF b m (row ts)=none)→P:=fun z=>absurd ((z _ rfl rfl).symm.trans (hdF_HvB hb ok l5 rfl)) (Option.some_ne_none h).symm
 refine told_head_ok hb k2 l5 no fun ts h' e l x=>?_
 have e:=x.symm.trans (hdF_HvB hb ok l5 e)
 cases e
 refine dict_eq rfl rfl (same_CA h) ?_
 refine bent_ok hl.1 l5 fun l1 h1=>bent_ok hl.1 l5 fun l2 h2=>?_
 refine ⟨show 3≤1000000 by decide,?_⟩
 refine zforA (R:=Sl×Sl×Sl) (f:=U.bytes) (fun ω=>True) (fun x=>[.val .well,.val (.int b),.val .dig,.val (.dict kA (vA h.val)),.val (.bytes (fmt m)),.val (.bytes (HvB b m h)),.val (HdO h.val),x.1,x.2.1,x.2.2]) [HvB b m h,l1,l2] (fun ω p=>?_) (fun o mo p k kn=>?_) (.unb,.unb,.unb)
 ·exact refused_ok hb k2 ok.1 (q _)
 ·have ho:o.length≤565:=(List.forall_mem_cons.mpr ⟨Nat.le_succ_of_le hl.2,List.forall_mem_cons.mpr ⟨Nat.le_trans h1 (Nat.succ_le_succ hl.2),List.forall_mem_singleton.mpr (Nat.le_trans h2 (Nat.succ_le_succ hl.2))⟩⟩:∀o∈[HvB b m h,l1,l2],o.length≤565) o mo
  refine bthH (n:=n+611) (Nat.le_trans (Nat.add_le_add_right ho 2) (Nat.le_trans (by decide) (Nat.le_add_left 678 n))) hb k2 (Nat.le_trans ho (by decide)) (fun z=>?_) fun h' ok' e'=>?_
  ·refine zf (fun w=>?_) (kn trivial (_,_,_)).1
   subst w
   exact no z
  ·have g:=HvB_1 ok'.1
   refine dict_eq rfl rfl (same_BC h') ?_
   refine made_head_ok (hasB h'.val) ?_
   refine header_octets_ok hb g.1 g.2 k2 (fun z=>absurd ok' z) fun ω=>zf (fun w=>w e') (kn trivial (_,_,_)).1
end Internal
end
section
namespace Internal
theorem zlaw:ZLAW 682:=fun b h1 h2=>by
 obtain ⟨b,rfl⟩:=Int.eq_ofNat_of_zero_le (Int.le_trans (by decide:(0:Int)≤3) h1)
 have hb:3≤b∧b≤6:=⟨Int.ofNat_le.mp h1,Int.ofNat_le.mp h2⟩
 exact ⟨fun Q E q=>receipt_right_ok (n:=2) hb q,fun Q E q=>withdrawal_right_ok (n:=673) q,head_right_ok (n:=2) hb fun ω=>rfl⟩
theorem law_ok:LAW:=law_of_z (n:=681) zlaw
end Internal
end
section
open PySem PySem.W PySem.Calls PyProof.Rows
namespace Internal
theorem an1 {a b:Bool}(h:(a&&b)=true):a=true:=by cases a<;>first |exact h |rfl
theorem an2 {a b:Bool}(h:(a&&b)=true):b=true:=by cases a<;>first |exact h |cases h
structure Cx where
 prog:Program
 w:World
 base:Heap
 K:Frag
 p:Program
 loose:List PySem.Str
 mg:PySem.Str→Option Value
 mb:PySem.Str→Option Value
noncomputable abbrev Cx.M (cx:Cx):Model:=model cx.prog cx.w
inductive VR:Value→V→Prop
 |none:VR .none .none
 |bool (b):VR (.bool b) (.bool b)
 |int (i t):VR (.int i t) (.int i)
 |bytes (b t):VR (.bytes b t) (.bytes b.toList)
 |str (x:String) (t):VR (.str (Str.ofString x) t) (.str x)
 |ref (a):VR (.ref a) (.ref a)
inductive VRs:List Value→List V→Prop
 |nil:VRs [] []
 |cons {v vs a as}:VR v a→VRs vs as→VRs (v::vs) (a::as)
theorem VR.int' {v i}(h:VR v (.int i)):∃t,v=.int i t:=by cases h;exact ⟨_,rfl⟩
theorem VR.bytes' {v l}(h:VR v (.bytes l)):∃t,v=.bytes l.toArray t:=by cases h;exact ⟨_,rfl⟩
theorem VR.str' {v x}(h:VR v (.str x)):∃t,v=.str (Str.ofString x) t:=by cases h;exact ⟨_,rfl⟩
theorem VR.ref' {v a}(h:VR v (.ref a)):v=.ref a:=by cases h;rfl
theorem VR.bool' {v b}(h:VR v (.bool b)):v=.bool b:=by cases h;rfl
theorem VR.none' {v}(h:VR v .none):v=.none:=by cases h;rfl
theorem VR.bytesL (l:List UInt8)(t):VR (.bytes l.toArray t) (.bytes l):=VR.bytes l.toArray t
@[elab_as_elim] theorem vI_ {a:V}{k:Int→Prop}{P:Value→Prop}{v:Value}(h:VR v a)(q:vI a k)(f:∀i t,k i→P (.int i t)):P v:=by
 cases a with
 |int i=>exact h.int'.elim fun t e=>e▸f i t q
 |_=>exact q.elim
@[elab_as_elim] theorem vB_ {a:V}{k:List UInt8→Prop}{P:Value→Prop}{v:Value}(h:VR v a)(q:vB a k)(f:∀l t,k l→P (.bytes l.toArray t)):P v:=by
 cases a with
 |bytes l=>exact h.bytes'.elim fun t e=>e▸f l t q
 |_=>exact q.elim
@[elab_as_elim] theorem vR_ {a:V}{k:Nat→Prop}{P:Value→Prop}{v:Value}(h:VR v a)(q:vR a k)(f:∀x,k x→P (.ref x)):P v:=by
 cases a with
 |ref x=>exact h.ref'▸f x q
 |_=>exact q.elim
@[elab_as_elim] theorem vT_ {a:V}{k:Bool→Prop}{P:Value→Prop}{v:Value}(h:VR v a)(q:vT a k)(f:∀b,k b→P (.bool b)):P v:=by
 cases a with
 |bool x=>exact h.bool'▸f x q
 |_=>exact q.elim
@[elab_as_elim] theorem vN_ {a:V}{p:Prop}{P:Value→Prop}{v:Value}(h:VR v a)(q:vN a p)(f:p→P .none):P v:=by
 cases a with
 |none=>exact h.none'▸f q
 |_=>exact q.elim
theorem VRs.nil' {vs}(h:VRs vs []):vs=[]:=by cases h;rfl
theorem VRs.uncons {l a as}(h:VRs l (a::as)):∃v vs,l=v::vs∧VR v a∧VRs vs as:=by cases h with |cons h k=>exact ⟨_,_,rfl,h,k⟩
theorem VRs.length {vs as}(h:VRs vs as):vs.length=as.length:=by induction h with |nil=>rfl |cons _ _ ih=>simp [ih]
theorem VRs.append {vs as ws bs}(h:VRs vs as)(k:VRs ws bs):VRs (vs++ws) (as++bs):=by induction h with |nil=>exact k |cons h _ ih=>exact .cons h ih
theorem VRs.get {vs as}(h:VRs vs as):∀{i:Nat} {a:V},as[i]? = some a→∃v,vs[i]? = some v∧VR v a:=by
 induction h with
 |nil=>intro i a e;cases e
 |cons h _ ih=>intro i a e;cases i with
  |zero=>cases e;exact ⟨_,rfl,h⟩
  |succ i=>exact ih e
theorem VRs.set {vs as}(h:VRs vs as){v a}(k:VR v a):∀i,VRs (vs.set i v) (as.set i a):=by
 induction h with
 |nil=>intro i;exact .nil
 |cons h hr ih=>intro i;cases i with
  |zero=>exact .cons k hr
  |succ i=>exact .cons h (ih i)
theorem VRs.drop {vs as}(h:VRs vs as):∀n,VRs (vs.drop n) (as.drop n):=by
 induction h with
 |nil=>intro n;simp;exact .nil
 |cons h hr ih=>intro n;cases n with
  |zero=>exact .cons h hr
  |succ n=>simpa using ih n
theorem VRs.take {vs as}(h:VRs vs as):∀n,VRs (vs.take n) (as.take n):=by
 induction h with
 |nil=>intro n;simp;exact .nil
 |cons h hr ih=>intro n;cases n with
  |zero=>simp;exact .nil
  |succ n=>simp only [List.take_succ_cons];exact .cons h (ih n)
theorem VRs.reverse {vs as}(h:VRs vs as):VRs vs.reverse as.reverse:=by
 induction h with
 |nil=>exact .nil
 |cons h hr ih=>simp only [List.reverse_cons];exact ih.append (.cons h .nil)
inductive KR {ι K:Type}(f:ι→K)(g:ι→V):List (K×Value)→List (V×V)→Prop
 |nil:KR f g [] []
 |cons {x:ι} {v a r s}:VR v a→KR f g r s→KR f g ((f x,v)::r) ((g x,a)::s)
noncomputable abbrev KVs:=KR Str.ofString V.str
noncomputable abbrev KVi:=KR (fun i:Int=>i) V.int
inductive FR (P:Params):List DictEntry→List (String×V)→Prop
 |nil:FR P [] []
 |cons {x:String} {h t v a r s}:h=PyData.keyHash P (Str.ofString x)→VR v a→FR P r s→FR P (⟨h,.str (Str.ofString x) t,v⟩::r) ((x,a)::s)
noncomputable def OR (cx:Cx)(h:Heap)(a:Nat):O→Prop
 |.list m vs=>∃cvs,h.IsList a cvs∧VRs cvs.toList vs∧(m=true→∀o,h.get? a=some o→o.dict=none)
 |.tup vs=>∃cvs,IsTup h a cvs∧VRs cvs.toList vs
 |.dict _ kvs=>(∃o es n,h.get? a=some o∧o.data=.dict es n)∧(strKeys kvs=true→∃kk,h.DictOf (strKind cx.prog cx.w) a kk∧KVs kk kvs)∧(intKeys kvs=true→∃kk,h.DictOf (intKind cx.prog cx.w) a kk∧KVi kk kvs)
 |.inst C dx=>h.get? a=some (instObj C dx)
 |.idict fs=>∃es n,h.get? a=some (dictOf es n)∧FR cx.w.params es fs∧fs.length≤1000
theorem OR.ex {cx h a o}(x:OR cx h a o):∃ob,h.get? a=some ob∧∀vs,ob.data≠.fields vs:=by
 cases o with
 |list m vs=>obtain ⟨_,⟨o,ho,_,n,hd⟩,_⟩:=x;exact ⟨o,ho,fun vs q=>by rw [hd] at q;cases q⟩
 |tup vs=>obtain ⟨_,⟨o,ho,_,n,hd⟩,_⟩:=x;exact ⟨o,ho,fun vs q=>by rw [hd] at q;cases q⟩
 |dict m kvs=>obtain ⟨⟨o,es,n,ho,hd⟩,_⟩:=x;exact ⟨o,ho,fun vs q=>by rw [hd] at q;cases q⟩
 |inst C dx=>exact ⟨_,x,fun vs q=>by cases q⟩
 |idict fs=>obtain ⟨es,n,ho,_⟩:=x;exact ⟨_,ho,fun vs q=>by cases q⟩
theorem dictOf_at {K:Type}[DecidableEq K]{prog:Program}{w:World}{k:KeyKind prog w K}{h h':Heap}{a:Addr}{kk:List (K×Value)}(x:h.DictOf k a kk)(e:∀ob,h.get? a=some ob→h'.get? a=some ob):h'.DictOf k a kk:=
 x.elim fun o x=>⟨o,x.elim fun es x=>⟨es,x.elim fun ep x=>⟨ep,e _ x.1,x.2⟩⟩⟩
theorem OR.at' {cx h h' a o}(x:OR cx h a o)(e:∀ob,h.get? a=some ob→h'.get? a=some ob):OR cx h' a o:=by
 cases o with
 |list m vs=>exact x.elim fun c p=>⟨c,p.1.elim fun o r=>⟨o,e _ r.1,r.2⟩,p.2.1,fun hm o' e'=>p.1.elim fun o r=>Option.some.inj ((e _ r.1).symm.trans e')▸p.2.2 hm o r.1⟩
 |tup vs=>exact x.elim fun c p=>⟨c,p.1.elim fun o r=>⟨o,e _ r.1,r.2⟩,p.2⟩
 |dict m kvs=>exact ⟨x.1.elim fun o x=>⟨o,x.elim fun es x=>⟨es,x.elim fun n x=>⟨n,e _ x.1,x.2⟩⟩⟩,fun q=>(x.2.1 q).elim fun kk y=>⟨kk,dictOf_at y.1 e,y.2⟩,fun q=>(x.2.2 q).elim fun kk y=>⟨kk,dictOf_at y.1 e,y.2⟩⟩
 |inst C dx=>exact e _ x
 |idict fs=>exact x.elim fun es x=>⟨es,x.elim fun n x=>⟨n,e _ x.1,x.2⟩⟩
noncomputable def O.fixed:O→Bool
 |.tup _ |.list false _ |.dict false _ |.inst ..=>true
 |_=>false
noncomputable def pin (ob:Obj):Bool:=match ob.data with
 |.dict es _=>decide (es.size≠0)
 |_=>false
noncomputable abbrev Ns1:=Addr×(PySem.Str→Option Value)
noncomputable def O.lit:O→Bool
 |.tup _ |.list false _=>true
 |_=>false
theorem O.lit_fixed {o:O}(h:o.lit=true):o.fixed=true:=by
 cases o with
 |tup=>rfl
 |list m=>cases m with |false=>rfl |true=>cases h
 |_=>cases h
structure Inv (cx:Cx)(F:List Ns1)(aux:List (Addr×Obj))(σ:Sto)(h:Heap):Prop where
 ne:F≠[]
 stays:cx.base.StaysIn h
 ns:∀p∈F,h.Ns p.1 p.2∧cx.base.objs.size≤p.1
 nd:(F.map (·.1)).Nodup
 auxs:∀q∈aux,h.get? q.1=some q.2∧cx.base.objs.size≤q.1∧q.1∉F.map (·.1)
 sto:∀a o,σ a=some o→OR cx h a o
 sep:∀a o,σ a=some o→a∉F.map (·.1)∧(∀q∈aux,q.1=a→o.fixed=true∧pin q.2=true)∧(cx.base.objs.size≤a∨o.lit=true)
theorem base_none {B:Heap}{a:Addr}(n:B.objs.size≤a):B.get? a=none:=by
 cases q:B.get? a with
 |none=>rfl
 |some o=>exact absurd (Heap.lt_size q) (Nat.not_lt.mpr n)
section
variable {cx:Cx}{F:List Ns1}{aux:List (Addr×Obj)}{σ σ':Sto}{h h':Heap}{L:Addr}{m m':PySem.Str→Option Value}
theorem Inv.big (I:Inv cx F aux σ h):cx.base.objs.size≤h.objs.size:=by
 cases F with
 |nil=>exact absurd rfl I.ne
 |cons p r=>have:=I.ns p (.head _);exact Nat.le_trans this.2 (Nat.le_of_lt this.1.lt)
theorem Inv.old (I:Inv cx F aux σ h){a:Nat}(n:h.objs.size≤a):σ a=none:=by
 cases q:σ a with
 |none=>rfl
 |some o=>obtain ⟨ob,e,_⟩:=(I.sto a o q).ex;exact absurd (Heap.lt_size e) (Nat.not_lt.mpr n)
theorem Inv.notF (I:Inv cx F aux σ h){a:Nat}(n:h.objs.size≤a):a∉F.map (·.1):=fun q=>by
 obtain ⟨p,hp,rfl⟩:=List.mem_map.mp q
 exact absurd (I.ns p hp).1.lt (Nat.not_lt.mpr n)
theorem Inv.notAux (I:Inv cx F aux σ h){a:Nat}(n:h.objs.size≤a):a∉aux.map (·.1):=fun q=>by
 obtain ⟨p,hp,rfl⟩:=List.mem_map.mp q
 exact absurd (Heap.lt_size (I.auxs p hp).1) (Nat.not_lt.mpr n)
theorem Inv.keep (I:Inv cx F aux σ h)(k:∀b o,h.get? b=some o→h'.get? b=some o):Inv cx F aux σ h' where
 ne:=I.ne
 stays:=fun b o e=>k b o (I.stays b o e)
 ns:=fun p hp=>⟨(I.ns p hp).1.keeps k,(I.ns p hp).2⟩
 nd:=I.nd
 auxs:=fun q hq=>⟨k _ _ (I.auxs q hq).1,(I.auxs q hq).2⟩
 sto:=fun a o e=>(I.sto a o e).at' fun ω q=>k _ _ q
 sep:=I.sep
theorem Inv.top (I:Inv cx ((L,m)::F) aux σ h)(k:∀b o,b≠L→h.get? b=some o→h'.get? b=some o)(n:h'.Ns L m'):Inv cx ((L,m')::F) aux σ h' where
 ne:=nofun
 stays:=fun b o e=>k b o (fun q=>by have:=base_none (I.ns (L,m) (.head _)).2;rw [←q,e] at this;cases this) (I.stays b o e)
 ns:=fun p hp=>by
  rcases List.mem_cons.mp hp with rfl |hp
  ·exact ⟨n,(I.ns (L,m) (.head _)).2⟩
  ·have hne:p.1≠L:=fun q=>(List.nodup_cons.mp I.nd).1 (List.mem_map.mpr ⟨p,hp,q⟩)
   exact ⟨(I.ns p (.tail _ hp)).1.at' fun o e=>k _ _ hne e,(I.ns p (.tail _ hp)).2⟩
 nd:=I.nd
 auxs:=fun q hq=>⟨k _ _ (fun e=>(I.auxs q hq).2.2 (e▸.head _)) (I.auxs q hq).1,(I.auxs q hq).2⟩
 sto:=fun a o e=>(I.sto a o e).at' fun ω q=>k _ _ (fun z=>(I.sep a o e).1 (z▸.head _)) q
 sep:=fun a o e=>I.sep a o e
theorem Inv.fr (I:Inv cx ((L,m)::F) aux σ h):Fr cx.base L h m:=⟨(I.ns (L,m) (.head _)).1,I.stays,(I.ns (L,m) (.head _)).2⟩
noncomputable def allNews (B:Heap)(L:Addr)(h:Heap):List (Addr×Obj):=
 (List.range h.objs.size).filterMap fun a=>if a=L∨(B.get? a).isSome then none else (h.get? a).map fun o=>(a,o)
theorem mem_allNews {B h:Heap}{L a:Addr}{o:Obj}(e:h.get? a=some o)(n:a≠L)(b:B.get? a=none):(a,o)∈allNews B L h:=
 List.mem_filterMap.mpr ⟨a,List.mem_range.mpr (Heap.lt_size e),by simp [n,b,e]⟩
theorem allNews_at {B h:Heap}{L:Addr}{p:Addr×Obj}(hp:p∈allNews B L h):h.get? p.1=some p.2∧p.1≠L∧B.get? p.1=none:=by
 obtain ⟨a,ha,e⟩:=List.mem_filterMap.mp hp
 by_cases hc:a=L∨(B.get? a).isSome=true
 ·rw [if_pos hc] at e;cases e
 ·rw [if_neg hc] at e
  obtain ⟨o,ho,rfl⟩:=Option.map_eq_some_iff.mp e
  refine ⟨ho,fun q=>hc (.inl q),?_⟩
  cases q:B.get? a with
  |none=>rfl
  |some _=>exact absurd (.inr (by rw [q];rfl)) hc
theorem news_all (B:Heap)(L:Addr)(h:Heap):News B L h (allNews B L h):=fun ω hp=>allNews_at hp
theorem keep_of {B:Heap}(N:News B L h' (allNews B L h))(F':Fr B L h' m')(b:Addr)(o:Obj)(n:b≠L)(e:h.get? b=some o)(st:∀o',B.get? b=some o'→h.get? b=some o'):h'.get? b=some o:=by
 cases q:B.get? b with
 |none=>exact (N _ (mem_allNews e n q)).1
 |some o'=>
  have:=st o' q
  rw [e] at this;cases this
  exact F'.keep b o q
theorem Inv.back {rest:List (Addr×Obj)}(I:Inv cx ((L,m)::F) aux σ h)(F':Fr cx.base L h' m')(N:News cx.base L h' rest)(s:∀p∈allNews cx.base L h,p∈rest):Inv cx ((L,m')::F) aux σ h':=
 I.top (fun b o n e=>keep_of (fun p hp=>N p (s p hp)) F' b o n e fun o' q=>I.stays b o' q) F'.ns
theorem Inv.back_keep {rest:List (Addr×Obj)}(I:Inv cx ((L,m)::F) aux σ h)(F':Fr cx.base L h' m')(N:News cx.base L h' rest)(s:∀p∈allNews cx.base L h,p∈rest):∀b o,b≠L→h.get? b=some o→h'.get? b=some o:=
 fun b o n e=>keep_of (fun p hp=>N p (s p hp)) F' b o n e fun o' q=>I.stays b o' q
noncomputable def put (σ:Sto)(a:Nat)(o:O):Sto:=fun b=>if b=a then some o else σ b
theorem put_self (σ:Sto)(a o):put σ a o a=some o:=if_pos rfl
theorem put_ne {σ:Sto}{a b o}(n:b≠a):put σ a o b=σ b:=if_neg n
theorem put_ext {σ:Sto}{a o}(n:σ a=none):Ext [] σ (put σ a o):=fun b ob ω e=>by
 rw [put_ne];exact e
 intro q;rw [q,n] at e;cases e
theorem put_ext1 {σ:Sto}{a o}:Ext [a] σ (put σ a o):=fun b ob n e=>by
 rw [put_ne];exact e
 intro q;exact n (q▸.head _)
theorem Inv.put (I:Inv cx F aux σ h){a o}(x:OR cx h a o)(nF:a∉F.map (·.1))(nA:∀q∈aux,q.1=a→o.fixed=true∧pin q.2=true)(nB:cx.base.objs.size≤a):Inv cx F aux (put σ a o) h where
 ne:=I.ne
 stays:=I.stays
 ns:=I.ns
 nd:=I.nd
 auxs:=I.auxs
 sto:=fun b ob e=>by
  by_cases q:b=a
  ·subst q;rw [put_self] at e;cases e;exact x
  ·rw [put_ne q] at e;exact I.sto b ob e
 sep:=fun b ob e=>by
  by_cases q:b=a
  ·subst q;rw [put_self] at e;cases e;exact ⟨nF,nA,.inl nB⟩
  ·rw [put_ne q] at e;exact I.sep b ob e
theorem Inv.new {h₀:Heap}(J:Inv cx F aux σ h₀)(I:Inv cx F aux σ h){a o}(x:OR cx h a o)(n:h₀.objs.size≤a):Inv cx F aux (Internal.put σ a o) h:=
 I.put x (J.notF n) (fun q hq z=>absurd (List.mem_map.mpr ⟨q,hq,z⟩) (J.notAux n)) (Nat.le_trans J.big n)
theorem Inv.updG (I:Inv cx F aux σ h){a o o'}(e:σ a=some o)(ht:o.fixed=false)(kn:∀p∈F,h'.Ns p.1 p.2)(k:∀b ob,b≠a→b∉F.map (·.1)→h.get? b=some ob→h'.get? b=some ob)(x:OR cx h' a o'):Inv cx F aux (Internal.put σ a o') h':=by
 have s:=I.sep a o e
 have nb:cx.base.objs.size≤a:=s.2.2.resolve_right fun q=>by rw [O.lit_fixed q] at ht;cases ht
 have nA:∀q∈aux,q.1≠a:=fun q hq z=>by rw [(s.2.1 q hq z).1] at ht;cases ht
 exact {
  ne:=I.ne
  stays:=fun b ob q=>k b ob (fun z=>by rw [z,base_none nb] at q;cases q) (fun z=>(List.mem_map.mp z).elim fun p hp=>by rw [←hp.2,base_none (I.ns p hp.1).2] at q;cases q) (I.stays b ob q)
  ns:=fun p hp=>⟨kn p hp,(I.ns p hp).2⟩
  nd:=I.nd
  auxs:=fun q hq=>⟨k _ _ (nA q hq) (I.auxs q hq).2.2 (I.auxs q hq).1,(I.auxs q hq).2⟩
  sto:=fun b ob q=>by
   by_cases z:b=a
   ·rw [z,put_self] at q;rw [z];exact Option.some.inj q▸x
   ·rw [put_ne z] at q;exact (I.sto b ob q).at' fun ω y=>k _ _ z (I.sep b ob q).1 y
  sep:=fun b ob q=>by
   by_cases z:b=a
   ·rw [z];exact ⟨s.1,fun q hq z=>absurd z (nA q hq),.inl nb⟩
   ·rw [put_ne z] at q;exact I.sep b ob q}
theorem Inv.upd (I:Inv cx F aux σ h){a o o'}(e:σ a=some o)(ht:o.fixed=false)(k:∀b ob,b≠a→h.get? b=some ob→h'.get? b=some ob)(x:OR cx h' a o'):Inv cx F aux (Internal.put σ a o') h':=
 I.updG e ht (fun p hp=>(I.ns p hp).1.at' fun ob q=>k _ _ (fun z=>(I.sep a o e).1 (List.mem_map.mpr ⟨p,hp,z⟩)) q) (fun b ob n ω=>k b ob n) x
theorem Inv.upd2 (I:Inv cx ((L,m)::F) aux σ h){a o o'}(e:σ a=some o)(ht:o.fixed=false)(k:∀b ob,b≠a→b≠L→h.get? b=some ob→h'.get? b=some ob)(hn:h'.Ns L m)(x:OR cx h' a o'):Inv cx ((L,m)::F) aux (Internal.put σ a o') h':=
 I.updG e ht (List.forall_mem_cons.mpr ⟨hn,fun p hp=>(I.ns p (.tail _ hp)).1.at' fun ob q=>k _ _ (fun z=>(I.sep a o e).1 (List.mem_map.mpr ⟨p,.tail _ hp,z⟩)) (fun z=>(List.nodup_cons.mp I.nd).1 (List.mem_map.mpr ⟨p,hp,z⟩)) q⟩)
  (fun b ob n y=>k b ob n fun z=>y (z▸.head _)) x
end
end Internal
end
section
open PySem PySem.W PySem.Calls PyProof.Rows
namespace Internal
noncomputable def SS (s s':Shared):Prop:=s'.gens=s.gens∧s'.drawn=s.drawn∧s'.os=s.os
theorem SS.refl {s}:SS s s:=⟨rfl,rfl,rfl⟩
theorem SS.trans {s s' s''}(a:SS s s')(b:SS s' s''):SS s s'':=⟨b.1.trans a.1,b.2.1.trans a.2.1,b.2.2.trans a.2.2⟩
inductive PV (cx:Cx)(F:List Ns1)(aux:List (Addr×Obj))(s:Shared)(Q:PX)(v:Value)(s':Shared):Prop
 |mk (a:V) (σ':Sto):SS s s'→VR v a→Inv cx F aux σ' s'.heap→Q a σ'→PV cx F aux s Q v s'
structure AOK (A:Around)(n:Nat):Prop where
 hd:A.handled=none
 dp:A.depth+n+10≤1000
 un:A.units+3*n+300≤9900
theorem intBits_le {a:Int}(h:a.natAbs<18446744073709551616):Builtin.Int.intBits a≤64:=by
 have:=Builtin.Int.intBits
 by_cases h0:a=0
 ·subst h0;decide
 ·have hl:a.natAbs.log2<64:=(Nat.log2_lt (by lia)).mpr h
  show (if a==0 then 0 else a.natAbs.log2+1)≤64
  split<;>lia
noncomputable def opOf:BOp→Operator
 |.add=>.Add |.sub=>.Sub |.mul=>.Mult |.mod=>.Mod |.fdiv=>.FloorDiv |.pow=>.Pow |.shl=>.LShift
section
variable {cx:Cx}{F:List Ns1}{aux:List (Addr×Obj)}{σ σ':Sto}{s:Shared}{A:Around}{E:Value→Shared→Prop}{Q:PX}{L:Addr}{m:PySem.Str→Option Value}
theorem pv_val (I:Inv cx F aux σ s.heap){v a}(hv:VR v a)(q:Q a σ){k:Nat}:PV cx F aux s Q v {s with toks:=k}:=⟨a,σ,SS.refl,hv,I,q⟩
theorem pv_val' (I:Inv cx F aux σ s.heap){v a}(hv:VR v a)(q:Q a σ):PV cx F aux s Q v s:=⟨a,σ,SS.refl,hv,I,q⟩
theorem pv_new {h:Heap}{s':Shared}(I:Inv cx F aux σ h)(ss:SS s s')(k:∀b o,h.get? b=some o→s'.heap.get? b=some o){o:O}(x:OR cx s'.heap h.objs.size o)(q:alloc o σ Q):PV cx F aux s Q (.ref h.objs.size) s':=
 ⟨_,_,ss,.ref _,I.new (I.keep k) x (Nat.le_refl _),q _ _ (I.old (Nat.le_refl _)) (put_ext (I.old (Nat.le_refl _))) (put_self ..)⟩
theorem keep_push {h:Heap}(x:Obj)(b:Addr)(o:Obj)(e:h.get? b=some o):(h.push x).get? b=some o:=Heap.get?_push_of_some _ e
theorem or_list {h:Heap}{c:Array Value}{as:List V}{b:Bool}(r:VRs c.toList as):OR cx (h.push {cls:=.type "list",data:=.seq c}) h.objs.size (.list b as):=
 ⟨_,⟨_,Heap.get?_push_size _ rfl,rfl,_,rfl⟩,r,fun ω o e=>by rw [Heap.get?_push_size _ rfl] at e;cases e;rfl⟩
theorem or_tup {h:Heap}{c:Array Value}{as:List V}(r:VRs c.toList as):OR cx (h.push {cls:=.type "tuple",data:=.seq c}) h.objs.size (.tup as):=
 ⟨_,⟨_,Heap.get?_push_size _ rfl,rfl,_,rfl⟩,r⟩
theorem list_new (I:Inv cx F aux σ s.heap){vs as}(hv:VRs vs as){b:Bool}(q:alloc (.list b as) σ Q)(hz:vs.length≤sizeLine) :
  wpAny cx.M A (newList vs) (PV cx F aux s Q) E s:=
 wpAny_newObj_type (pv_new I ⟨rfl,rfl,rfl⟩ (keep_push _) (or_list hv) q) hz
theorem tup_new (I:Inv cx F aux σ s.heap){vs as}(hv:VRs vs as)(q:alloc (.tup as) σ Q)(hz:vs.length≤sizeLine) :
  wpAny cx.M A (newTuple vs) (PV cx F aux s Q) E s:=
 wpAny_newObj_type (pv_new I ⟨rfl,rfl,rfl⟩ (keep_push _) (or_tup hv) q) hz
theorem list_add (I:Inv cx ((L,m)::F) aux σ s.heap){x y:Nat}(q:∃m vs m' us,σ x=some (.list m vs)∧σ y=some (.list m' us)∧vs.length+us.length≤1000∧alloc (.list false (vs++us)) σ Q) :
  wpAny cx.M A (binaryOp .Add (.ref x) (.ref y)) (PV cx ((L,m)::F) aux s Q) E s:=by
 obtain ⟨b1,vs,b2,us,e1,e2,hz,q⟩:=q
 obtain ⟨c1,l1,r1,_⟩:=I.sto _ _ e1
 obtain ⟨c2,l2,r2,_⟩:=I.sto _ _ e2
 have h:c1.size+c2.size≤1000:=(show c1.size+c2.size=vs.length+us.length from congr (congrArg _ r1.length) r2.length)▸hz
 refine add_arrays I.fr (news_all _ _ _) l1 l2 (fun h' F' N'=>?_) (by rw [sizeLine_eq];exact Nat.le_trans h (by decide))
 have I':=I.back F' N' fun p hp=>List.mem_cons_of_mem _ hp
 have x:OR cx h' s.heap.objs.size (.list false (vs++us)):=⟨_,⟨_,(N' _ (.head _)).1,rfl,_,rfl⟩,r1.append r2,nofun⟩
 exact ⟨_,_,⟨rfl,rfl,rfl⟩,.ref _,I.new I' x (Nat.le_refl _),q _ _ (I.old (Nat.le_refl _)) (put_ext (I.old (Nat.le_refl _))) (put_self ..)⟩
theorem bin_ok (I:Inv cx ((L,m)::F) aux σ s.heap){va vb a b}(ha:VR va a)(hb:VR vb b)(op:BOp)(q:wpBin op a b σ Q) :
  wpAny cx.M A (binaryOp (opOf op) va vb) (PV cx ((L,m)::F) aux s Q) E s:=by
 cases op with
 |sub=>exact vI_ ha q fun i t q=>vI_ hb q fun j u q=>sub_int (pv_val I (.int ..) q)
 |mod=>exact vI_ ha q fun i t q=>vI_ hb q fun j u q=>mod_int' (Int.ne_of_gt q.1) (pv_val I (Int.fmod_eq_emod_of_nonneg i (Int.le_of_lt q.1)▸VR.int ..) q.2)
 |fdiv=>exact vI_ ha q fun i t q=>vI_ hb q fun j u q=>floordiv_int (Int.ne_of_gt q.1.1) (pv_val I (Int.fdiv_eq_ediv_of_nonneg i (Int.le_of_lt q.1.1)▸VR.int ..) q.2) (.inl (PyProof.noPylong_small (by have:=q.1;lia)))
 |pow=>exact vI_ ha q fun i t q=>vI_ hb q fun j u q=>pow_int_small q.1.1 q.1.2.1 q.1.2.2 (pv_val I (.int ..) q.2)
 |shl=>exact vI_ ha q fun i t q=>vI_ hb q fun j u q=>lshift_int_small q.1.1 q.1.2.1 q.1.2.2 (pv_val I (.int ..) q.2)
 |mul=>
  cases a<;>first |exact q.elim |skip
  ·exact ha.int'.elim fun t e=>e▸vI_ hb q fun j u q=>mul_int (pv_val I (.int ..) q.2) (IntMulOk.of_right (intBits_le q.1))
  ·exact ha.bytes'.elim fun t e=>e▸vI_ hb q fun j u q=>bytes_mul_any q.1.1 (by have:=q.1.2.2.1;first |exact this |lia) q.1.2.2.2 q.1.2.1 fun t' k=>pv_val I (VR.bytesL _ _) q.2
 |add=>
  cases a<;>first |exact q.elim |skip
  ·exact ha.int'.elim fun t e=>e▸vI_ hb q fun j u q=>add_int (pv_val I (.int ..) q)
  ·exact ha.bytes'.elim fun t e=>e▸vB_ hb q fun r u q=>KBy.add_bytes q.1 fun t' k=>pv_val I (by rw [List.append_toArray];exact VR.bytesL _ _) q.2
  ·exact ha.ref'▸vR_ hb q fun y q=>list_add I q
end
end Internal
end
section
open PySem PySem.W PySem.Calls PyProof.Rows
set_option maxRecDepth 100000
namespace Internal
open PySem.SeqAt PySem.AutoSeq1
theorem eqAt_bytes {A:Around}{s:Shared}(b:Array UInt8)(t:Tok)(c:Array UInt8)(u:Tok):EqAt A s (.bytes b t) (.bytes c u) (b.toList==c.toList):=fun prog w E Q h=>by
 unfold eqBool
 refine wpAny_holding ?_
 refine wpAny_ite_split (fun hab=>?_) (fun ω=>?_)
 ·have:=eq_of_beq hab
  injection this with h1 h2
  subst h1
  exact wpAny_bind (wpAny_rule (wpAny_pure (by simpa using h)))
 ·exact wpAny_bind (eq_bytes (prog:=prog) (w:=w) (wpAny_truthy_bool h))
theorem isub_none_bytes:isSubtype (.type "NoneType") (.type "bytes")=pure false:=by rw [isSubtype_type];kernel_rfl
theorem isub_bytes_list:isSubtype (.type "bytes") (.type "list")=pure false:=by rw [isSubtype_type];kernel_rfl
theorem isub_list_bytes:isSubtype (.type "list") (.type "bytes")=pure false:=by rw [isSubtype_type];kernel_rfl
theorem bytes_eq_none (b:Array UInt8)(t:Tok):Gives (Builtin.«bytes.__eq__» ⟨[.bytes b t,.none],[]⟩) (.val (Value.notImplemented)):=by
 refine .of_wp fun M A E s Q hq=>?_
 show wpAny M A ((pure (Value.bytes b t,[Value.none]):Sem (Value×List Value)) >>= fun r=>_) _ E s
 refine wpAny_bind (wpAny_pure ?_)
 refine wpAny_bind (wpAny_isInstance (T := "NoneType") rfl isub_none_bytes ?_)
 rw [if_pos (show (!false)=true from rfl)]
 exact wpAny_bind (wpAny_rule (wpAny_pure ⟨_,rfl,hq⟩))
theorem none_eq_bytes (b:Array UInt8)(t:Tok):Gives (Builtin.«NoneType.__eq__» ⟨[.none,.bytes b t],[]⟩) (.val (Value.notImplemented)):=
 .of_wp fun M A E s Q h=>by obtain ⟨hp,g,d,tk,os⟩:=s;wp_walk;exact ⟨_,rfl,h⟩
theorem eqAt_bytes_none {A:Around}{s:Shared}(b:Array UInt8)(t:Tok):EqAt A s (.bytes b t) .none false:=fun prog w E Q h=>by
 unfold eqBool
 refine wpAny_holding ?_
 refine wpAny_ite_split (fun hab=>absurd (eq_of_beq hab) nofun) (fun ω=>?_)
 refine wpAny_bind (rc_eq_decline_or (k:=false) (typeIs_bytes s b t) rfl (by decide) isub_none_bytes FB.slot_bytes_eq F.slot_NoneType_eq_refl
  (fun ω hq=>call_gives FB.slot_bytes_eq (typeIs_bytes s b t) FB.entry_bytes_eq (FB.args_bytes_eq_2 _ _) (bytes_eq_none b t) hq)
  (fun ω hq=>call_gives F.slot_NoneType_eq_refl rfl F.entry_NoneType_eq (F.args_NoneType_eq_2 _ _) (none_eq_bytes b t) hq)
  (fun ω hq=>wpAny_of_eq (rfl:isSame (.bytes b t) .none=pure false) hq) (.inl rfl) (wpAny_truthy_bool h))
theorem list_ne_bytes_decl (l:Addr)(items:Array Value)(n:Nat)(dd:Option Addr)(sl:Array (Option Value))(b:Array UInt8)(u:Tok) :
  Meets (Builtin.«list.__ne__» ⟨[.ref l,.bytes b u],[]⟩) (fun ω R s=>s.heap.get? l=some {cls:=.type "list",dict:=dd,data:=.seq items n,slots:=sl}∧R (.ok (.ret .notImplemented)) s):=
 .of_wp fun prog w A R s h=>by obtain ⟨hp,g,d,tk,os⟩:=s;obtain ⟨hl,h⟩:=h;have f1:=isub_bytes_list;wp_walk using wpAny_loadPart' hl;exact ⟨_,rfl,h⟩
theorem bytes_ne_list (l:Addr)(items:Array Value)(n:Nat)(dd:Option Addr)(sl:Array (Option Value))(b:Array UInt8)(u:Tok) :
  Meets (Builtin.«bytes.__ne__» ⟨[.bytes b u,.ref l],[]⟩) (fun ω R s=>s.heap.get? l=some {cls:=.type "list",dict:=dd,data:=.seq items n,slots:=sl}∧R (.ok (.ret .notImplemented)) s):=by
 refine .of_wp fun prog w A R s h=>?_
 obtain ⟨hl,h⟩:=h
 show wpAny _ _ (isInstance (.ref l) (.type "bytes") >>= fun r=>_) _ _ s
 refine wpAny_bind (wpAny_isInstance (T := "list") ⟨_,hl,rfl⟩ isub_list_bytes ?_)
 rw [if_pos (show (!false)=true from rfl)]
 exact wpAny_bind (wpAny_rule (wpAny_pure ⟨_,rfl,h⟩))
theorem ne_list_bytes {prog:Program}{w:World}{A:Around}{E:Value→Shared→Prop}{s:Shared}{l:Addr}{items:Array Value}(b:Array UInt8)(u:Tok)(hl:s.heap.IsList l items)(hu:A.units<cLine){Q:Value→Shared→Prop}
  (h:Q (.bool true) s):wpAny (model prog w) A (compareOp .NotEq (.ref l) (.bytes b u)) Q E s:=by
 obtain ⟨⟨cls,dd,data,sl⟩,ho,hc,n,hd⟩:=id hl
 simp only at hc hd
 subst hc hd
 exact rc_ne_decline_or (k:=false) ⟨_,ho,rfl⟩ (typeIs_bytes s b u) (by decide) isub_bytes_list F.slot_list_ne FB.slot_bytes_ne
  (fun ω hq=>call_meets F.slot_list_ne ⟨_,ho,rfl⟩ F.entry_list_ne (F.args_list_ne_2 _ _) (list_ne_bytes_decl l items n dd sl b u) ⟨ho,hq⟩)
  (fun ω hq=>call_meets FB.slot_bytes_ne (typeIs_bytes s b u) FB.entry_bytes_ne (FB.args_bytes_ne_2 _ _) (bytes_ne_list l items n dd sl b u) ⟨ho,hq⟩)
  (fun ω hq=>wpAny_of_eq (rfl:isSame (.ref l) (.bytes b u)=pure false) hq) (.inr hu) h
end Internal
namespace Internal
open PySem.SeqAt PySem.AutoSeq1
section
variable {cx:Cx}{F:List Ns1}{aux:List (Addr×Obj)}{σ σ':Sto}{s:Shared}{A:Around}{E:Value→Shared→Prop}{L:Addr}{m:PySem.Str→Option Value}
theorem leaf_eqAt {x y:Value}{v:V}(h:VR x v)(h':VR y v)(l:leaf v=true):EqAt A s x y true:=by
 cases v with
 |none=>exact h.none'▸h'.none'▸.same _
 |bool b=>exact h.bool'▸h'.bool'▸.same _
 |int i=>exact h.int'.elim fun t e=>h'.int'.elim fun u e'=>e▸e'▸beq_self_eq_true i▸EqAt.int_int _ _ _ _
 |bytes b=>exact h.bytes'.elim fun t e=>h'.bytes'.elim fun u e'=>e▸e'▸beq_self_eq_true b▸eqAt_bytes _ _ _ _
 |_=>cases l
theorem els {S:V→V→Prop}(hS:∀{x y a b},S a b→VR x a→VR y b→EqAt A s x y true):∀{vs us:List V} {l k:List Value},Sames S vs us→VRs l vs→VRs k us→l.length=k.length∧∀j (h1:j<l.length) (h2:j<k.length),EqAt A s l[j] k[j] true
 | [],_,l,k,q,r,r'=>by
  rw [show _=[] from q] at r'
  rw [r.nil',r'.nil']
  exact ⟨rfl,fun j h=>absurd h (Nat.not_lt_zero j)⟩
 |x::vs,us,l,k,q,r,r'=>by
  refine q.elim fun y q=>q.elim fun ys q=>?_
  rw [q.1] at r'
  refine r.uncons.elim fun a r=>r.elim fun as r=>r'.uncons.elim fun b r'=>r'.elim fun bs r'=>?_
  rw [r.1,r'.1]
  have ih:=els hS q.2.2 r.2.2 r'.2.2
  refine ⟨congrArg Nat.succ ih.1,fun j h1 h2=>?_⟩
  cases j with
  |zero=>exact hS q.2.1 r.2.1 r'.2.1
  |succ j=>exact ih.2 j (Nat.lt_of_succ_lt_succ h1) (Nat.lt_of_succ_lt_succ h2)
theorem all_t:∀l:List Nat,l.all (fun ω=>true)=true
 | []=>rfl
 |_::l=>all_t l
theorem ne_t {b:Bool}{x y:Value}(t:b=true)(h:RcNeAt A s x y (!b)):RcNeAt A s x y false:=by rw [t] at h;exact h
theorem ref_same (I:Inv cx F aux σ s.heap)(hu:A.units<cLine){S:V→V→Prop}(hS:∀{x y a b},S a b→VR x a→VR y b→EqAt A.in1 s x y true){a b:Nat}(q:RefSame σ S a b) :
  RcAt A s (.ref a) (.ref b) true∧RcNeAt A s (.ref a) (.ref b) false:=by
 cases q with
 |tup vs us h h' q=>
  exact (I.sto _ _ h).elim fun c p=>(I.sto _ _ h').elim fun d p'=>
   have e:=els hS q p.2 p'.2
   have e1:c.size=d.size:=e.1
   have t:((List.range (min c.size d.size)).all (fun ω=>true)&&c.size==d.size)=true:=by rw [all_t,e1];exact beq_self_eq_true d.size
   ⟨t▸RcAt.tuples (e:=fun ω=>true) p.1 p'.1 hu e.2,ne_t t <|RcNeAt.tuples (e:=fun ω=>true) p.1 p'.1 hu e.2⟩
 |list vs us h h' q=>
  exact (I.sto _ _ h).elim fun c p=>(I.sto _ _ h').elim fun d p'=>
   have e:=els hS q p.2.1 p'.2.1
   ⟨all_t (List.range c.size)▸RcAt.lists (e:=fun ω=>true) p.1 p'.1 e.1 hu e.2,ne_t (all_t (List.range c.size)) <|RcNeAt.lists (e:=fun ω=>true) p.1 p'.1 e.1 hu e.2⟩
theorem same_eqAt (I:Inv cx F aux σ s.heap):∀(n:Nat) (A:Around) {x y:Value} {a b:V},A.units+n<cLine→Same σ n a b→VR x a→VR y b→EqAt A s x y true
 |0,_,_,_,_,_,_,q,h,h'=>leaf_eqAt h (q.1▸h') q.2
 |n+1,A,x,y,a,b,hu,q,h,h'=>q.elim (fun q=>leaf_eqAt h (q.1▸h') q.2) fun q=>vR_ h q fun c q=>vR_ h' q fun d q=>by
  by_cases e:c=d
  ·rw [e];exact .same _
  ·exact EqAt.of_refs e (ref_same I (Nat.lt_of_le_of_lt (Nat.le_add_right ..) hu) (same_eqAt I n A.in1 (Nat.lt_of_le_of_lt (Nat.le_of_eq (Nat.succ_add ..)) hu)) q).1
end
end Internal
end
section
open PySem PySem.W PySem.Calls PyProof.Rows
set_option maxRecDepth 100000
namespace Internal
open PySem.SeqAt PySem.AutoSeq1
theorem ofString_inj {x y:String}(h:Str.ofString x=Str.ofString y):x=y:=by
 rw [Str.ofString_eq_toList,Str.ofString_eq_toList] at h
 injection h with h
 have h2:x.toList.map Char.toNat=y.toList.map Char.toNat:=by simpa using h
 have h3:x.toList=y.toList:=by
  have inj:∀(l r:List Char),l.map Char.toNat=r.map Char.toNat→l=r:=by
   intro l
   induction l with
   |nil=>intro r h;cases r with |nil=>rfl |cons _ _=>cases h
   |cons a l ih=>
    intro r h
    cases r with
    |nil=>cases h
    |cons b r=>
     injection h with h1 h2
     have e:a=b:=by
      apply Char.ext
      exact UInt32.toNat_inj.mp h1
     rw [e,ih r h2]
  exact inj _ _ h2
 exact String.toList_inj.mp h3
structure Good (cx:Cx):Prop where
 K:cx.K.In cx.base
 T:TopRead cx.p cx.loose cx.mg cx.mb cx.base
 sys:4≤cx.base.objs.size
section
variable {cx:Cx}{F:List Ns1}{aux:List (Addr×Obj)}{σ σ':Sto}{s:Shared}{A:Around}{E:Value→Shared→Prop}{Q:PX}{L:Addr}{m:PySem.Str→Option Value}{n:Nat}
theorem Inv.notSys (G:Good cx)(I:Inv cx F aux σ s.heap){a b kv}(e:σ a=some (.dict b kv)):(a==sysModules)=false:=by
 have h:=(I.sep _ _ e).2.2.resolve_right fun q=>by cases q
 have:=G.sys
 simp only [sysModules,beq_eq_false_iff_ne]
 intro q;subst q;lia
section
variable {ι K:Type}[DecidableEq K]{f:ι→K}{g:ι→V}{kk:List (K×Value)}{kv:List (V×V)}{x:ι}{v:Value}{a:V}
noncomputable def KO (f:ι→K)(g:ι→V):Prop:=∀x y,keyEq (g x) (g y)=decide (f y=f x)
theorem koS:KO Str.ofString V.str:=fun x y=>by
 show (x==y)=_
 by_cases h:x=y
 ·rw [h,beq_self_eq_true];exact (decide_eq_true rfl).symm
 ·rw [beq_false_of_ne h];exact (decide_eq_false fun z=>h (ofString_inj z).symm).symm
theorem koI:KO (fun i:Int=>i) V.int:=fun x y=>by
 show (x==y)=_
 by_cases h:x=y
 ·rw [h,beq_self_eq_true];exact (decide_eq_true rfl).symm
 ·rw [beq_false_of_ne h];exact (decide_eq_false fun z=>h z.symm).symm
theorem KR.get (o:KO f g)(h:KR f g kk kv):dget (g x) kv=some a→∃v,valueAt kk (f x)=some v∧VR v a:=by
 induction h with
 |nil=>intro e;cases e
 |cons hv r ih=>
  intro e
  rw [dget,o] at e
  unfold valueAt
  rw [List.find?_cons]
  by_cases q:f ‹ι›=f x
  ·rw [if_pos (decide_eq_true q)] at e;rw [decide_eq_true q];exact ⟨_,rfl,Option.some.inj e▸hv⟩
  ·rw [decide_eq_false q,if_neg Bool.false_ne_true] at e;rw [decide_eq_false q];exact ih e
theorem KR.length (h:KR f g kk kv):kk.length=kv.length:=by
 induction h with
 |nil=>rfl
 |cons _ _ ih=>exact congrArg Nat.succ ih
theorem KR.any (o:KO f g)(h:KR f g kk kv):kk.any (fun p=>decide (p.1=f x))=kv.any fun p=>keyEq (g x) p.1:=by
 induction h with
 |nil=>rfl
 |cons _ _ ih=>rw [List.any_cons,List.any_cons,ih,o]
theorem find_any {α:Type}{p:α→Bool}:∀l:List α,(l.find? p).isSome=l.any p
 | []=>rfl
 |a::l=>by
  rw [List.find?_cons,List.any_cons]
  cases p a with
  |true=>rfl
  |false=>exact find_any l
theorem KR.some (o:KO f g)(h:KR f g kk kv):(valueAt kk (f x)).isSome=kv.any fun p=>keyEq (g x) p.1:=by
 rw [←h.any o,←find_any,valueAt,Option.isSome_map]
theorem KR.map (o:KO f g)(hv:VR v a)(h:KR f g kk kv):KR f g (kk.map fun p=>if p.1=f x then (p.1,v) else p) (kv.map fun p=>if keyEq (g x) p.1 then (p.1,a) else p):=by
 induction h with
 |nil=>exact .nil
 |cons hw _ ih=>
  rw [List.map_cons,List.map_cons,o]
  by_cases q:f ‹ι›=f x
  ·rw [if_pos q,if_pos (decide_eq_true q)];exact .cons hv ih
  ·rw [if_neg q,decide_eq_false q,if_neg Bool.false_ne_true];exact .cons hw ih
theorem KR.snoc (hv:VR v a)(h:KR f g kk kv):KR f g (kk++[(f x,v)]) (kv++[(g x,a)]):=by
 induction h with
 |nil=>exact .cons hv .nil
 |cons h _ ih=>exact .cons h ih
theorem KR.stored (o:KO f g)(hv:VR v a)(h:KR f g kk kv):KR f g (PySem.stored kk (f x) v) (dset (g x) a kv):=by
 unfold PySem.stored dset
 rw [h.any o]
 by_cases q:(kv.any fun p=>keyEq (g x) p.1)=true
 ·rw [if_pos q,if_pos q];exact h.map o hv
 ·rw [if_neg q,if_neg q];exact h.snoc hv
end
inductive PB (s:Shared)(R:Bool→Prop)(v:Value)(s':Shared):Prop
 |mk (c:Bool) (tk:Nat):v=.bool c→s'={s with toks:=tk}→R c→PB s R v s'
theorem pb {s:Shared}{R:Bool→Prop}{c:Bool}(h:R c):PB s R (.bool c) s:=⟨c,s.toks,rfl,rfl,h⟩
noncomputable def copOf:COp→CmpOp
 |.eq=>.Eq |.ne=>.NotEq |.lt=>.Lt |.le=>.LtE |.gt=>.Gt |.ge=>.GtE |.is=>.Is |.isnt=>.IsNot |.inn=>.In |.nin=>.NotIn
theorem notIn_of {M:Model}{a b:Value}{P:Value→Shared→Prop}(h:wpAny M A (compareOp .In a b) (fun v s'=>∀c,v=.bool c→P (.bool (!c)) s') E s):wpAny M A (compareOp .NotIn a b) P E s:=fun Γ p hΓ=>by
 have q:=h Γ p hΓ
 simp only [compareOp,Sem.wp_bind',Sem.wp_pure'] at q⊢
 exact Sem.wp_mono M Γ _ (fun c ω s' hc=>hc c rfl) (fun ω ω ω e=>e) _ _ q
noncomputable def cvEq:Value→Value→Bool
 |.int a _,.int b _=>a==b
 |.bytes a _,.bytes b _=>a.toList==b.toList
 |.none,.none=>true
 |_,_=>false
theorem flat_in {x y:Value}{a b:V}(ha:VR x a)(hb:VR y b)(f:flatIn a b=true):EqAt A s y x (cvEq y x)∧cvEq y x=flatEq a b:=by
 cases a with
 |none=>
  rw [ha.none']
  cases b with
  |none=>rw [hb.none'];exact ⟨.same _,rfl⟩
  |int j=>exact hb.int'.elim fun u e=>e▸⟨EqAt.int_none _ _,rfl⟩
  |bytes c=>exact hb.bytes'.elim fun u e=>e▸⟨eqAt_bytes_none _ _,rfl⟩
  |_=>exact absurd f Bool.false_ne_true
 |int i=>
  cases b with
  |int j=>exact ha.int'.elim fun t e=>hb.int'.elim fun u e'=>e▸e'▸⟨EqAt.int_int _ _ _ _,Bool.beq_comm⟩
  |_=>exact absurd f Bool.false_ne_true
 |bytes l=>
  cases b with
  |bytes j=>exact ha.bytes'.elim fun t e=>hb.bytes'.elim fun u e'=>e▸e'▸⟨eqAt_bytes _ _ _ _,Bool.beq_comm⟩
  |_=>exact absurd f Bool.false_ne_true
 |_=>exact absurd f Bool.false_ne_true
theorem any_flat {x:Value}{a:V}(hx:VR x a){vs as}(h:VRs vs as):as.all (flatIn a)=true→(∀y∈vs,EqAt A s y x (cvEq y x))∧vs.any (fun y=>cvEq y x)=as.any (flatEq a):=by
 induction h with
 |nil=>exact fun ω=>⟨fun y h=>absurd h List.not_mem_nil,rfl⟩
 |cons h r ih=>
  intro f
  rw [List.all_cons,Bool.and_eq_true] at f
  have q:=flat_in (A:=A) (s:=s) hx h f.1
  exact ⟨List.forall_mem_cons.mpr ⟨q.1,(ih f.2).1⟩,by rw [List.any_cons,List.any_cons,q.2,(ih f.2).2]⟩
theorem in_ok (G:Good cx)(I:Inv cx F aux σ s.heap){va vb a b}(ha:VR va a)(hb:VR vb b){R:Bool→Prop}(q:wpIn a b σ R) :
  wpAny cx.M A (compareOp .In va vb) (PB s R) E s:=by
 cases q with
 |seq y vs e hs hf q=>
  subst e
  rw [hb.ref']
  exact hs.elim (fun e=>(I.sto _ _ e).elim fun c p=>have k:=any_flat ha p.2 hf;in_tupleAt (fun y=>cvEq y va) p.1 (fun z hz=>k.1 z (Array.mem_toList_iff.mpr hz)) (pb (by rw [←Array.any_toList,k.2];exact q)))
   fun e=>e.elim fun m e=>(I.sto _ _ e).elim fun c p=>have k:=any_flat ha p.2.1 hf;in_listAt (fun y=>cvEq y va) p.1 (fun z hz=>k.1 z (Array.mem_toList_iff.mpr hz)) (pb (by rw [←Array.any_toList,k.2];exact q))
 |dict y m kv k e e' g hk q=>
  subst e e'
  rw [hb.ref']
  exact ha.int'.elim fun t e=>e▸((I.sto _ _ g).2.2 hk).elim fun kk p=>wpAny_in_of (intKind_is _ _ k t) (I.notSys G g) p.1.mapOf ⟨_,_,rfl,rfl,p.2.some koI▸q⟩
end
end Internal
end
section
open PySem PySem.W PySem.Calls PyProof.Rows
set_option maxRecDepth 100000
namespace Internal
open PySem.SeqAt PySem.AutoSeq1
section
variable {cx:Cx}{F:List Ns1}{aux:List (Addr×Obj)}{σ σ':Sto}{s:Shared}{A:Around}{E:Value→Shared→Prop}{Q:PX}{L:Addr}{m:PySem.Str→Option Value}{n:Nat}
theorem dict_hits {kk':List (PySem.Str×Value)}{kw}(r2:KVs kk' kw){kk kv}(h:KVs kk kv):dSame kw kv→KeqHits A s kk' kk true:=by
 induction h with
 |nil=>exact fun ω=>.nil
 |cons h _ ih=>exact fun d=>(r2.get koS d.1.1).elim fun y p=>.hit (e:=true) (b:=true) p.1 (leaf_eqAt h p.2 d.1.2) (ih d.2)
theorem eq_nil {a b:Nat}{m n:Bool}{vs:List V}(I:Inv cx F aux σ s.heap)(hu:A.units<cLine)(e1:σ a=some (.list m vs))(e2:σ b=some (.list n [])):RcAt A s (.ref a) (.ref b) vs.isEmpty∧RcNeAt A s (.ref a) (.ref b) (!vs.isEmpty):=
 (I.sto _ _ e1).elim fun c p=>(I.sto _ _ e2).elim fun d p'=>by
  have h1:=p.2.1.length
  have h2:d.size=0:=p'.2.1.length
  cases vs with
  |nil=>
   have h1:c.size=0:=h1
   have no:∀j (h1:j<c.size) (h2:j<d.size),EqAt A.in1 s c[j] d[j] true:=fun j h=>absurd h (by rw [h1];exact Nat.not_lt_zero j)
   have t:=all_t (List.range c.size)
   exact ⟨show RcAt A s _ _ true from t▸RcAt.lists (e:=fun ω=>true) p.1 p'.1 (h1.trans h2.symm) hu no,ne_t t <|RcNeAt.lists (e:=fun ω=>true) p.1 p'.1 (h1.trans h2.symm) hu no⟩
  |cons v vs=>
   have h1:c.size=vs.length+1:=h1
   have q:(c.size != d.size)=true:=by rw [h1,h2];rfl
   exact ⟨RcAt.lists_lengths p.1 p'.1 q hu,RcNeAt.lists_lengths p.1 p'.1 q hu⟩
theorem eq_ok (G:Good cx)(I:Inv cx F aux σ s.heap)(hA:AOK A n){x y:Nat}{R:Bool→Prop}(q:wpEq x y σ R) :
  (∀P:Value→Shared→Prop,(∀c,R c→P (.bool c) s)→wpAny cx.M A (compareOp .Eq (.ref x) (.ref y)) P E s)∧(∀P:Value→Shared→Prop,(∀c,R c→P (.bool !c) s)→wpAny cx.M A (compareOp .NotEq (.ref x) (.ref y)) P E s):=by
 have hu:A.units+31+1<cLine:=by have:=hA.un;show _<9900;lia
 have hu':A.units<cLine:=Nat.lt_of_le_of_lt (Nat.le_add_right _ 32) hu
 cases q with
 |same q r=>
  have k:=ref_same I hu' (fun q=>same_eqAt I 31 A.in1 (Nat.lt_of_le_of_lt (Nat.le_of_eq (Nat.succ_add ..)) hu) q) q
  exact ⟨fun P h=>k.1 _ _ _ _ (h _ r),fun P h=>k.2 _ _ _ _ (h _ r)⟩
 |nil m n vs e1 e2 r=>
  have k:=eq_nil I hu' e1 e2
  exact ⟨fun P h=>k.1 _ _ _ _ (h _ r),fun P h=>k.2 _ _ _ _ (h _ r)⟩
 |dict m n kv kw e1 e2 k1 k2 hl d r=>
  refine ((I.sto _ _ e1).2.1 k1).elim fun kk p=>((I.sto _ _ e2).2.1 k2).elim fun kk' p'=>?_
  have hits:KeqHits A.in1 s kk' kk true:=dict_hits p'.2 p.2 d
  have t:(kk.length==kk'.length&&true)=true:=by rw [p.2.length,p'.2.length,hl,Bool.and_true];exact beq_self_eq_true kw.length
  exact ⟨fun P h=>keq_eq (I.notSys G e1) (I.notSys G e2) p.1 p'.1 hu' (fun ω=>hits) (by rw [t];exact h _ r),fun P h=>keq_ne (I.notSys G e1) (I.notSys G e2) p.1 p'.1 hu' (fun ω=>hits) (by rw [t];exact h _ r)⟩
theorem VR.ne_none {v a}(h:VR v a)(n:a≠.none):v≠.none:=fun z=>by subst z;cases h;exact n rfl
theorem isNone_ne {a:V}(h:a≠.none):a.isNone=false:=by
 cases a with
 |none=>exact absurd rfl h
 |_=>rfl
theorem is_ok {va a}(ha:VR va a){R:Bool→Prop}(q:R a.isNone):wpAny cx.M A (compareOp .Is va .none) (PB s R) E s:=by
 by_cases h:a=.none
 ·subst h;rw [ha.none'];exact is_none_none (pb q)
 ·exact is_none_ne (ha.ne_none h) (pb (isNone_ne h▸q))
theorem isnt_ok {va a}(ha:VR va a){R:Bool→Prop}(q:R (!a.isNone)):wpAny cx.M A (compareOp .IsNot va .none) (PB s R) E s:=by
 by_cases h:a=.none
 ·subst h;rw [ha.none'];exact isnot_none_none (pb q)
 ·exact isnot_none_ne (ha.ne_none h) (pb (by rw [isNone_ne h] at q;exact q))
theorem cmp_ok (G:Good cx)(I:Inv cx F aux σ s.heap)(hA:AOK A n){va vb a b}(ha:VR va a)(hb:VR vb b)(op:COp){R:Bool→Prop}(q:wpCmp op a b σ R) :
  wpAny cx.M A (compareOp (copOf op) va vb) (PB s R) E s:=by
 cases op with
 |inn=>exact in_ok G I ha hb q
 |nin=>exact notIn_of (wpAny_mono (in_ok G I ha hb q) (fun v s' p c hv=>by cases p with |mk c' tk e e' h=>rw [e] at hv;cases hv;exact ⟨_,_,rfl,e',h⟩) (fun ω ω h=>h))
 |is=>exact vN_ hb q fun q=>is_ok ha q.2
 |isnt=>exact vN_ hb q fun q=>isnt_ok ha q.2
 |lt=>exact vI_ ha q fun i t q=>vI_ hb q fun j u q=>lt_int (pb q)
 |le=>exact vI_ ha q fun i t q=>vI_ hb q fun j u q=>le_int (pb q)
 |gt=>exact vI_ ha q fun i t q=>vI_ hb q fun j u q=>gt_int (pb q)
 |ge=>exact vI_ ha q fun i t q=>vI_ hb q fun j u q=>ge_int (pb q)
 |eq=>
  cases a<;>first |exact q.elim |skip
  ·exact ha.int'.elim fun t e=>e▸vI_ hb q fun j u q=>eq_int (pb q)
  ·exact ha.bytes'.elim fun t e=>e▸vB_ hb q fun j u q=>eq_bytes (pb q)
  ·exact ha.ref'▸vR_ hb q fun y q=>(eq_ok G I hA q).1 _ fun c h=>pb h
 |ne=>
  cases a<;>first |exact q.elim |skip
  ·exact ha.none'▸vN_ hb q fun q=>(RcNeAt.none_none:RcNeAt A s .none .none false) _ _ _ _ (pb q)
  ·exact ha.int'.elim fun t e=>e▸vI_ hb q fun j u q=>ne_int (pb q)
  ·exact ha.bytes'.elim fun t e=>e▸vB_ hb q fun j u q=>ne_bytes (pb q)
  ·rw [ha.ref']
   cases b<;>first |exact q.elim |skip
   ·exact hb.bytes'.elim fun u e=>e▸q.elim fun m q=>q.elim fun vs q=>(I.sto _ _ q.1).elim fun c p=>ne_list_bytes _ _ p.1 (by have:=hA.un;show _<9900;lia) (pb q.2)
   ·exact hb.ref'▸(eq_ok G I hA (R:=fun r=>R (!r)) q).2 _ fun c h=>pb h
end
end Internal
end
section
open PySem PySem.W PySem.Calls PyProof.Rows
set_option maxRecDepth 100000
namespace Internal
open PySem.SeqAt PySem.AutoSeq1
theorem clip_eq (n:Nat)(i:Int):clipAt n i=clip n i:=by
 rfl
theorem cut_eq {α:Type}(l:List α)(lo hi:Option Int):(l.drop (lo.elim 0 (clipAt l.length))).take (hi.elim l.length (clipAt l.length)-lo.elim 0 (clipAt l.length))=cut l lo hi:=by
 unfold cut
 cases lo<;>cases hi<;>simp only [Option.elim,clip_eq]
set_option tactic.hygienic true in
theorem subscripted_ex (slice:Expr)(o i:Value):∃ops,subscripted slice false o i=operate ops (getItem o i):=by
 cases slice<;>first |exact ⟨_,rfl⟩ |(rename_i st _;cases st<;>exact ⟨_,rfl⟩)
section
variable {cx:Cx}{F:List Ns1}{aux:List (Addr×Obj)}{σ σ':Sto}{s:Shared}{A:Around}{E:Value→Shared→Prop}{Q:PX}{L:Addr}{m:PySem.Str→Option Value}{n:Nat}
theorem tail_ {prog:Program}{w:World}{value slice:Expr}{o i:Value}{T id:String}{Q:Value→Shared→Prop}(hT:s.TypeIs o T)
  (hl:typeLookup (.type T) "__getitem__" = pure (some (.builtin id)))(hg:wpAny (model prog w) A (getItem o i) Q E s):wpAny (model prog w) A (subscriptTail value slice o i) Q E s:=by
 obtain ⟨ops,h⟩:=subscripted_ex slice o i
 exact tail_any hT hl hg h
theorem sub_seq (I:Inv cx F aux σ s.heap){a:Nat}{k:Int}{u:Tok}{vs:List V}{v:V}{value slice:Expr}(hs:isSeq σ a vs)(h:0≤k∧k≤1000000)(hv:vs[k.toNat]? = some v)(q:Q v σ) :
  wpAny cx.M A (subscriptTail value slice (.ref a) (.int k u)) (PV cx F aux s Q) E s:=
 hs.elim (fun e=>(I.sto _ _ e).elim fun c p=>(p.2.get hv).elim fun v' x=>
   tail_ (IsTup.typeIs p.1) slot_tuple_getitem.lookup (getItem_tuple (j:=k.toNat) (x:=v') p.1 (Int.le_trans (by decide) h.1) (Int.lt_of_le_of_lt h.2 (by decide)) (seqIndex_of h.1 ((Int.toNat_lt h.1).mp (List.getElem?_eq_some_iff.mp x.1).1)) (by rw [←Array.getElem?_toList];exact x.1) (pv_val' I x.2 q)))
  fun e=>e.elim fun m e=>(I.sto _ _ e).elim fun c p=>(p.2.1.get hv).elim fun v' x=>
   tail_ (Heap.IsList.typeIs p.1) slot_list_getitem.lookup (wpAny_getItem_list p.1 h.1 (Int.lt_of_le_of_lt h.2 (by decide)) (by rw [←Array.getElem?_toList];exact x.1) (pv_val' I x.2 q))
theorem sub_ok (I:Inv cx F aux σ s.heap){va vb a b}(ha:VR va a)(hb:VR vb b){value slice:Expr}(q:wpSub a b σ Q) :
  wpAny cx.M A (subscriptTail value slice va vb) (PV cx F aux s Q) E s:=by
 cases a<;>first |exact q.elim |skip
 ·exact ha.bytes'.elim fun t e=>e▸vI_ hb q fun k u q=>tail_ (typeIs_bytes _ _ _) FB.slot_bytes_getitem.lookup (getItem_bytes (by have:=q.1.2.2;lia) q.1.1 q.1.2.1 (pv_val I (.int ..) q.2))
 ·rw [ha.ref']
  cases b<;>first |exact q.elim |skip
  ·exact hb.int'.elim fun u e=>e▸q.elim (fun q=>q.elim fun vs q=>q.elim fun v q=>sub_seq I q.1 q.2.1 q.2.2.1 q.2.2.2) fun q=>q.elim fun m q=>q.elim fun kv q=>q.elim fun v q=>
    ((I.sto _ _ q.1).2.2 q.2.1).elim fun kk p=>(p.2.get koI q.2.2.1).elim fun v' x=>tail_ p.1.typeIs slot_dict_getitem.lookup (wpAny_getItem_of (intKind_is _ _ _ u) p.1.mapOf x.1 (pv_val I x.2 q.2.2.2))
  ·exact hb.str'.elim fun u e=>e▸q.elim fun m q=>q.elim fun kv q=>q.elim fun v q=>
    ((I.sto _ _ q.1).2.1 q.2.1).elim fun kk p=>(p.2.get koS q.2.2.1).elim fun v' x=>tail_ p.1.typeIs slot_dict_getitem.lookup (wpAny_getItem_of (strKind_is _ _ _ u) p.1.mapOf x.1 (pv_val I x.2 q.2.2.2))
theorem getItem_tuple_run {prog:Program}{w:World}{t sl:Addr}{items:Array Value}{j:Int}{u u':Tok}{Q:Value→Shared→Prop}(ht:IsTup s.heap t items)(hs:s.heap.IsSliceOf sl (.int 2 u) (.int j u') .none)(hj:j=5∨j=6)(hz:items.size=14)
  (h:Q (.ref s.heap.objs.size) {s with heap:=s.heap.push {cls:=.type "tuple",data:=.seq ((items.toList.drop 2).take (j-2).toNat).toArray}}) :
  wpAny (model prog w) A (getItem (.ref t) (.ref sl)) Q E s:=by
 have hsz:sizeOk (.seq ((items.toList.drop 2).take (j-2).toNat).toArray):=by
  show ((items.toList.drop 2).take (j-2).toNat).length≤sizeLine
  exact Nat.le_trans (List.length_take_le' _ _) (by rw [List.length_drop,Array.length_toList,hz];decide)
 obtain ⟨os,hos,hcs,hds⟩:=id hs
 have hTs:s.TypeIs (.ref sl) "slice" := ⟨os,hos,hcs⟩
 have happ:∀Q':Int×Int×Nat→Shared→Prop,Q' (2,1,(j-2).toNat) s→wpAny (model prog w) A.in1 (Builtin.Slice.sliceApplied (.ref sl) (pure (items.size:Int))) Q' E s:=fun Q' hq=>by
  unfold Builtin.Slice.sliceApplied Builtin.Slice.sliceFields
  refine wpAny_bind (wpAny_bind (wpAny_field hos hds (x:=.int 2 u) rfl (wpAny_bind (wpAny_field hos hds (x:=.int j u') rfl (wpAny_bind (wpAny_field hos hds (x:=.none) rfl (wpAny_pure ?_)))))))
  refine wpAny_bind (slicePart_none ?_)
  refine wpAny_ite_false (by rfl) ?_
  refine wpAny_bind (slicePart_int (wpAny_bind (slicePart_int (wpAny_bind (wpAny_pure ?_)))))
  rw [hz]
  rcases hj with e |e<;>subst e<;>exact wpAny_pure hq
 have hpick:((List.range (j-2).toNat).filterMap fun (k:Nat)=>items[((2:Int)+(k:Int)*1).toNat]?).toArray=((items.toList.drop 2).take (j-2).toNat).toArray:=by
  rw [←pick_run,List.filterMap_map]
  exact congrArg List.toArray (congrArg (fun f=>List.filterMap f _) (funext fun k=>by show items[((2:Int)+(k:Int)*1).toNat]? = items[2+k]?;rw [Int.mul_one];rfl))
 unfold getItem
 try with_reducible refine wpAny_holding ?_
 first |refine wpAny_bind (wpAny_pure ?_) |skip
 refine wpAny_bind (wpAny_sequenceKey ht.typeIs (by decide) ?_)
 refine wpAny_bind (wpAny_callSpecial?_slot (name:=Str.ofString "__getitem__") ht.typeIs slot_tuple_getitem
  (wpAny_call_entry slot_tuple_getitem ht.typeIs entry_tuple_getitem ?_ (args_tuple_getitem _ _)))
 show wpAny _ _ (Builtin.Tuple.tupleItemsOf (.ref t) >>= _) _ _ s
 refine wpAny_bind (tupleItemsOf_ ht ?_)
 refine wpAny_bind (wpAny_typeOf hTs ?_)
 refine wpAny_ite_true (by rfl) ?_
 refine wpAny_bind (happ _ ?_)
 refine wpAny_ite_false (by rfl) ?_
 rw [hpick]
 first
  |exact wpAny_bind (m:=Builtin.Tuple.tupleExact _) (wpAny_newObj_type (wpAny_pure ⟨_,rfl,wpAny_pure h⟩) hsz)
  |exact wpAny_bind (m:=Builtin.Tuple.tupleExact _) (wpAny_newObj_type (wpAny_bind (wpAny_pure (wpAny_pure ⟨_,rfl,wpAny_pure h⟩))) hsz)
  |exact wpAny_bind (wpAny_bind (m:=Builtin.Tuple.tupleExact _) (wpAny_newObj_type (wpAny_pure (wpAny_pure ⟨_,rfl,wpAny_pure h⟩)) hsz))
  |exact wpAny_bind (wpAny_bind (m:=Builtin.Tuple.tupleExact _) (wpAny_newObj_type (wpAny_pure ⟨_,rfl,wpAny_pure h⟩) hsz))
noncomputable abbrev sli (s:Shared)(a b c:Value):Shared:={s with heap:=s.heap.push {cls:=.type "slice",data:=.fields #[a,b,c]}}
theorem slc_tup (I:Inv cx F aux σ s.heap){a:Nat}{vl vu:Value}{j:Int}(pl:IsPart vl (some 2))(pu:IsPart vu (some j)){vs:List V}(e:σ a=some (.tup vs))(hj:j=5∨j=6)(hz:vs.length=14){value slice:Expr}
  (q:alloc (.tup ((vs.drop 2).take (j-2).toNat)) σ Q):wpAny cx.M A (subscriptTail value slice (.ref a) (.ref s.heap.objs.size)) (PV cx F aux s Q) E (sli s vl vu .none):=by
 have I':Inv cx F aux σ (sli s vl vu .none).heap:=I.keep (keep_push _)
 refine (I'.sto _ _ e).elim fun c p=>?_
 cases pl with
 |int _ u=>
  cases pu with
  |int _ u'=>
   exact tail_ (IsTup.typeIs p.1) slot_tuple_getitem.lookup (getItem_tuple_run p.1 (Heap.IsSliceOf.new _ _ _ _) hj (p.2.length.trans hz) (pv_new I' ⟨rfl,rfl,rfl⟩ (keep_push _) (or_tup (cx:=cx) ((p.2.drop _).take _)) q))
theorem slc_list (I:Inv cx F aux σ s.heap){a:Nat}{v1 v2 v3:Value}{lo hi st:Option Int}(p1:IsPart v1 lo)(p2:IsPart v2 hi)(p3:IsPart v3 st)(hst:st≠some 0){m:Bool}{vs us:List V}(e:σ a=some (.list m vs))(hz:vs.length≤1000){value slice:Expr}
  (hp:∀c:Array Value,c.size=vs.length→VRs c.toList vs→VRs (slicePick c lo hi st).toList us)(q:alloc (.list false us) σ Q):wpAny cx.M A (subscriptTail value slice (.ref a) (.ref s.heap.objs.size)) (PV cx F aux s Q) E (sli s v1 v2 v3):=by
 have I':Inv cx F aux σ (sli s v1 v2 v3).heap:=I.keep (keep_push _)
 refine (I'.sto _ _ e).elim fun c p=>?_
 have hl:c.size=vs.length:=p.2.1.length
 exact tail_ (Heap.IsList.typeIs p.1) slot_list_getitem.lookup (wpAny_getItem_list_slice p.1 (Heap.IsSliceOf.new _ _ _ _) p1 p2 p3 hst
  (pv_new I' ⟨rfl,rfl,rfl⟩ (keep_push _) (or_list (cx:=cx) (hp c hl p.2.1)) q) (by rw [sizeLine_eq];exact Nat.le_trans (hl▸hz) (by decide)))
theorem slc_ok (I:Inv cx F aux σ s.heap){va a}(ha:VR va a){vl vu:Value}{lo hi:Option Int}(pl:IsPart vl lo)(pu:IsPart vu hi){value slice:Expr}(q:wpSlc lo hi a σ Q) :
  wpAny cx.M A (subscriptTail value slice va (.ref s.heap.objs.size)) (PV cx F aux s Q) E {s with heap:=s.heap.push {cls:=.type "slice",data:=.fields #[vl,vu,.none]}}:=by
 cases a<;>first |exact q.elim |skip
 ·exact ha.bytes'.elim fun t e=>e▸tail_ (typeIs_bytes _ _ _) FB.slot_bytes_getitem.lookup (getItem_meets (typeIs_bytes _ _ _) (by decide) FB.slot_bytes_getitem FB.entry_bytes_getitem (FB.args_bytes_getitem_2 _ _) (KBc.meets_slice2 _ t _ pl pu)
   ⟨Heap.IsSliceOf.new _ _ _ _,Nat.le_trans (KBc.size_picked_le _ lo hi) (by rw [sizeLine_eq];exact Nat.le_trans q.1 (by decide)),fun t' k=>⟨_,_,⟨rfl,rfl,rfl⟩,by rw [KBc.picked_eq];exact VR.bytesL _ _,I.keep (keep_push _),(cut_eq _ lo hi).symm▸q.2⟩⟩)
 ·exact ha.ref'▸q.elim (fun q=>q.elim fun vs q=>q.elim fun i q=>q.elim fun j q=>by rw [q.1,q.2.2.2.1.1] at pl;rw [q.2.1] at pu;exact slc_tup I pl pu q.2.2.1 q.2.2.2.1.2.1 q.2.2.2.1.2.2 q.2.2.2.2)
   fun q=>q.elim fun m q=>q.elim fun vs q=>slc_list I pl pu .none (nofun) q.1 q.2.1 (fun c hl r=>by rw [slicePick_plain,←cut_eq,←hl];exact (r.drop _).take _) q.2.2
theorem rev_ok (I:Inv cx F aux σ s.heap){b}{m' vs}(e:σ b=some (.list m' vs))(hz:vs.length≤1000){u:Tok}{value slice:Expr}(q:alloc (.list false vs.reverse) σ Q) :
  wpAny cx.M A (subscriptTail value slice (.ref b) (.ref s.heap.objs.size)) (PV cx F aux s Q) E {s with heap:=s.heap.push {cls:=.type "slice",data:=.fields #[.none,.none,.int (-1) u]}}:=
 slc_list I .none .none (.int _ _) (by decide) e hz (fun c hl r=>by rw [krv_pick];exact r.reverse) q
end
end Internal
end
section
open PySem PySem.W PySem.Calls PyProof.Rows
set_option maxRecDepth 100000
namespace Internal
open PySem.SeqAt PySem.AutoSeq1
section
variable {cx:Cx}{F:List Ns1}{aux:List (Addr×Obj)}{σ σ':Sto}{s:Shared}{A:Around}{E:Value→Shared→Prop}{Q:PX}{L:Addr}{m:PySem.Str→Option Value}{n:Nat}
theorem call_len_dict' {prog:Program}{w:World}{d:Addr}{kvs:List (V×V)}{Q:Value→Shared→Prop}(hs:(d==sysModules)=false){b}(I:Inv cx F aux σ s.heap)(e:σ d=some (.dict b kvs))(hk:intKeys kvs=true)(hz:kvs.length≤1000000)(hw:cx.prog=prog)(hw2:cx.w=w)
  (h:Q (.int kvs.length (s.toks+1)) {s with toks:=s.toks+1+1}):wpAny (model prog w) A (call (.builtin "len") [.ref d]) Q E s:=by
 subst hw hw2
 obtain ⟨kk,hd,hr⟩:=(I.sto _ _ e).2.2 hk
 exact call_len_dict hs hd (by rw [hr.length];first |exact Int.lt_of_le_of_lt (Int.ofNat_le.mpr hz) (by decide) |exact Nat.lt_of_le_of_lt hz (by decide) |lia) (by rw [hr.length];exact h)
theorem len_ok (G:Good cx)(I:Inv cx F aux σ s.heap){va a}(ha:VR va a)(q:wpLen a σ Q) :
  wpAny cx.M A (call (.builtin "len") [va]) (PV cx F aux s Q) E s:=by
 cases a<;>first |exact q.elim |skip
 ·exact ha.bytes'.elim fun t e=>e▸len_bytes (by have:=q.1;first |exact Nat.le_trans this (by decide) |exact Nat.lt_of_le_of_lt this (by decide) |(simp only [List.size_toArray];lia)) (pv_val I (.int ..) q.2)
 ·rw [ha.ref']
  exact q.elim (fun q=>q.elim fun vs q=>q.1.elim
    (fun e=>(I.sto _ _ e).elim fun c p=>have hl:c.size=vs.length:=p.2.length;len_tuple p.1 (by rw [hl];exact Int.lt_of_le_of_lt (Int.ofNat_le.mpr q.2.1) (by decide)) (pv_val I (.int ..) (hl▸q.2.2)))
    fun e=>e.elim fun m e=>(I.sto _ _ e).elim fun c p=>have hl:c.size=vs.length:=p.2.1.length;len_list p.1 (by rw [hl];exact Int.lt_of_le_of_lt (Int.ofNat_le.mpr q.2.1) (by decide)) (pv_val I (.int ..) (hl▸q.2.2)))
   fun q=>q.elim fun m q=>q.elim fun kv q=>call_len_dict' (I.notSys G q.1) I q.1 q.2.2.1 q.2.1 rfl rfl (pv_val I (.int ..) q.2.2.2)
noncomputable def tyName:Ty→String |.list => "list" |.bytes => "bytes" |.bool => "bool"
theorem isub_bytes_list':isSubtype (.type "bytes") (.type "list")=pure false:=by rw [isSubtype_type];kernel_rfl
theorem isi_byl {prog:Program}{w:World}(l:Array UInt8)(t:Tok){Q:Value→Shared→Prop}(h:Q (.bool false) {s with toks:=s.toks+1}):wpAny (model prog w) A (call (.builtin "isinstance") [.bytes l t,.type "list"]) Q E s:=
 call_isinstance (S:=fun ω R s=>R (.ok (.ret (.bool false))) {s with toks:=s.toks+1}) (fun ω ω ω ω s hs=>isinstance_outer (isinstance_nested_false_bytes (by decide +kernel) PySem.F.isi_meta_list isub_bytes_list' hs) (nofun)) h
theorem isi_ok (I:Inv cx F aux σ s.heap){va a}(ha:VR va a)(t:Ty)(q:wpIsi t a σ Q) :
  wpAny cx.M A (call (.builtin "isinstance") [va,.type (tyName t)]) (PV cx F aux s Q) E s:=by
 cases a<;>first |exact q.elim |skip
 ·cases t<;>first |exact q.elim |skip
  exact ha.bool'▸IsiPair.bool_bool (pv_val' I (.bool _) q)
 ·refine ha.bytes'.elim fun u e=>e▸?_
  cases t<;>first |exact q.elim |skip
  ·exact isi_byl _ _ (pv_val I (.bool _) q)
  ·exact call_isinstance_yes (Tx := "bytes") (typeIs_bytes _ _ _) PySem.F.isi_meta_bytes (by rw [isSubtype_type];kernel_rfl) (pv_val' I (.bool _) q)
 ·rw [ha.ref']
  cases t<;>first |exact q.elim |skip
  ·exact q.elim fun m q=>q.elim fun vs q=>(I.sto _ _ q.1).elim fun c p=>p.1.elim fun o x=>IsiPair.list_list x.1 x.2.1 (pv_val' I (.bool _) q.2)
  ·exact q.elim fun m q=>q.elim fun vs q=>(I.sto _ _ q.1).elim fun c p=>p.1.elim fun o x=>IsiPair.list_bytes x.1 x.2.1 (pv_val I (.bool _) q.2)
theorem ints_of:∀{ns:List Int} {vs},VRs vs (ns.map V.int)→IntsAre vs ns
 | [],_,.nil=>.nil
 |n::r,_,.cons h k=>by obtain ⟨t,rfl⟩:=h.int';exact .cons n t (ints_of k)
theorem byteArr_eq (ns:List Int):byteArr ns=(ns.map fun n=>UInt8.ofNat n.toNat).toArray:=rfl
theorem bm_lk_bytes:typeLookup (.type "bytes") "__bytes__" = pure (some (.builtin "bytes.__bytes__")):=by rw [typeLookup_type,builtinLookup_eq_fast];kernel_rfl
theorem bytes_new_self {prog:Program}{w:World}{l:Array UInt8}{t:Tok}{Q:Value→Shared→Prop}(h:Q (.bytes l t) s) :
  codeAny (model prog w) A (.call (.builtin "bytes.__new__") ⟨[.type "bytes",.bytes l t],[]⟩) (wants Q E) s:=by
 refine codeAny_of_tree ?_
 show wpAny _ A.in1 (do checkBuiltinCall "bytes.__new__" ⟨[.type "bytes",.bytes l t],[]⟩;again (.builtin "bytes.__new__" ⟨[.type "bytes",.bytes l t],[]⟩)) _ _ s
 refine wpAny_bind (wpAny_of_eq (PySem.F.bm_newCall _) (wpAny_pure ⟨plainId_quiet PySem.F.bm_plain _,codeAny_builtin PySem.F.bm_entry ?_⟩))
 rw [Around.under_plainId PySem.F.bm_plain _]
 unfold Builtin.«bytes.__new__»
 refine wpAny_bind (wpAny_of_eq (a:=true) rfl ?_)
 refine bm_if_false rfl ?_
 refine wpAny_bind (wpAny_of_eq PySem.F.bm_sub ?_)
 refine bm_if_false rfl ?_
 refine wpAny_bind (wpAny_of_eq (PySem.F.bm_bind _) ?_)
 refine wpAny_bind (wpAny_of_eq (a:=()) rfl ?_)
 refine wpAny_bind (wpAny_of_eq (a:=()) rfl ?_)
 refine bm_if_false rfl ?_
 refine wpAny_bind (wpAny_specialOf (typeIs_bytes _ _ _) bm_lk_bytes ?_)
 refine wpAny_bind (wpAny_rule ?_)
 refine wpAny_bind (wpAny_typeOf (typeIs_bytes _ _ _) ?_)
 refine bm_if_true rfl ?_
 first
  |(refine bm_if_true rfl ?_;exact wpAny_pure h)
  |(refine bm_if_true rfl ?_;exact wpAny_bind (wpAny_pure h))
  |(refine bm_if_true rfl ?_;exact wpAny_bind (wpAny_pure (wpAny_pure h)))
theorem byt_ok (I:Inv cx F aux σ s.heap)(hA:AOK A n){va a}(ha:VR va a)(q:wpByt a σ Q) :
  wpAny cx.M A (call (.type "bytes") [va]) (PV cx F aux s Q) E s:=by
 cases a<;>first |exact q.elim |skip
 ·refine ha.bytes'.elim fun t e=>e▸callType_codes (Q₁:=fun obj s₁=>s₁.TypeIs obj "bytes" ∧ PV cx F aux s Q obj s₁) PySem.F.bm_called (PySem.F.bm_typeCall _) PySem.F.entry_object_init
   (bytes_new_self ⟨PySem.W.typeIs_bytes _ _ _,pv_val' I (VR.bytesL ..) q.2⟩) fun obj s₁ h₁=>?_
  exact ⟨h₁.1,PySem.F.args_object_init_2 obj _,object_init_meets PySem.F.bm_called.init.lookup PySem.F.bm_called.made (by decide) cx.prog cx.w A.in1 _ s₁ ⟨h₁.1,rfl,h₁.2⟩⟩
 ·exact ha.ref'▸q.elim fun m q=>q.elim fun ns q=>(I.sto _ _ q.1).elim fun c p=>by
   have hl:c.size=ns.length:=p.2.1.length.trans (List.length_map ..)
   exact call_bytes_ints (vs:=c.toList) p.1 (ints_of p.2.1) q.2.1 (by rw [sizeLine_eq,Array.length_toList,hl];exact Nat.le_trans q.2.2.1 (by decide)) hA.hd fun h' t k hk=>⟨_,_,⟨rfl,rfl,rfl⟩,VR.bytesL _ _,I.keep hk,q.2.2.2⟩
theorem beN_length:∀(k x:Nat),(beN k x).length=k
 |0,_=>rfl
 |k+1,x=>by simp [beN,beN_length k]
theorem beN_little:∀(k x:Nat),(beN k x).reverse.map (fun c=>((c.toNat:Nat):Int))=KTBy.little k (x:Int)
 |0,_=>rfl
 |k+1,x=>by
  rw [beN,List.reverse_append,List.reverse_singleton,List.singleton_append,List.map_cons,beN_little k,KTBy.little]
  congr 1
  show ((UInt8.ofNat (x % 256)).toNat:Int)=(x:Int) % 256
  rw [UInt8.toNat_ofNat']
  lia
theorem mapU8_inj:∀{l r:List UInt8},l.map (fun c=>((c.toNat:Nat):Int))=r.map (fun c=>((c.toNat:Nat):Int))→l=r
 | [],[],_=>rfl
 | [],_::_,h=>by cases h
 |_::_,[],h=>by cases h
 |a::l,b::r,h=>by
  injection h with h1 h2
  rw [mapU8_inj h2,UInt8.toNat_inj.mp (Int.ofNat.inj h1)]
theorem low_beN {x:Int}{k:Nat}(h0:0≤x)(h1:x<256^k):KTBy.low x k=(beN k x.toNat).reverse:=by
 apply mapU8_inj
 rw [KTBy.low_ints h0 h1,←KTBy.little_eq,beN_little,Int.toNat_of_nonneg h0]
theorem toB_int {prog:Program}{w:World}{x:Int}{t u:Tok}{k:Nat}{little:Bool}{v:Tok}{Q:Value→Shared→Prop}(h:(0≤(k:Int)∧(k:Int)≤64∧0≤x∧x<256^k))(hq:∀t' k',Q (.bytes (cond little (beN k x.toNat).reverse (beN k x.toNat)).toArray t') {s with toks:=k'}) :
  wpAny (model prog w) A (call (.builtin "int.to_bytes") [.int x t,.int (k:Int) u,.str (PySem.Str.ofString (if little then "little" else "big")) v]) Q E s:=by
 have hb:=KTBy.bits_le (k:=k) rfl h.2.2.1 h.2.2.2
 have hb':¬((Builtin.Int.intBits x:Int)>8*(k:Int)):=Int.not_lt.mpr (by exact_mod_cast hb)
 have h2:∀n:Int,64≤n→¬((k:Int)>n):=fun n hn=>Int.not_lt.mpr (Int.le_trans h.2.1 hn)
 have h3:¬((k:Int)<0):=Int.not_lt.mpr h.1
 refine wpAny_call_entry KTBy.slot (typeIs_int s x t) KTBy.entry ?_ (KTBy.args _ _ _)
 refine wpAny_bind (wpAny_of_eq (a:=x) rfl ?_)
 refine wpAny_bind (wpAny_of_eq (a:=[some (.int (k:Int) u),some (.str (PySem.Str.ofString (if little then "little" else "big")) v),none]) (by cases little<;>kernel_rfl) ?_)
 refine wpAny_bind (wpAny_of_eq (a:=(k:Int)) rfl ?_)
 refine KTBy.if_not (by show (decide ((k:Int) < -(2^63:Int))||decide ((k:Int)≥2^63))=false;rw [decide_eq_false (show ¬((k:Int) < -(2^63:Int)) from Int.not_lt.mpr (Int.le_trans (by decide) h.1)),decide_eq_false (show ¬((k:Int)≥2^63) from Int.not_le.mpr (Int.lt_of_le_of_lt h.2.1 (by decide)))];rfl) ?_
 refine wpAny_bind (wpAny_of_eq (a:=PySem.Str.ofString (if little then "little" else "big")) (by cases little<;>kernel_rfl) ?_)
 refine wpAny_bind (wpAny_of_eq (a:=false) rfl ?_)
 refine wpAny_bind (wpAny_of_eq (a:=little) (by cases little<;>kernel_rfl) ?_)
 refine wpAny_ite_false (decide_eq_false h3) ?_
 refine wpAny_ite_false (decide_eq_false (h2 _ (by decide))) ?_
 refine wpAny_ite_false (decide_eq_false (h2 _ (by rw [sizeLine_eq];decide))) ?_
 refine KTBy.if_not (by show (decide (x<0)&&!false)=false;rw [decide_eq_false (Int.not_lt.mpr h.2.2.1)];rfl) ?_
 refine KTBy.if_not (by show (_&&decide ((Builtin.Int.intBits x:Int)>8*(k:Int)))=false;rw [decide_eq_false hb',Bool.and_false]) ?_
 have key:(if little=true then KTBy.low x k else (KTBy.low x k).reverse)=(cond little (beN k x.toNat).reverse (beN k x.toNat)):=by
  rw [low_beN h.2.2.1 h.2.2.2]
  cases little with
  |true=>rfl
  |false=>exact List.reverse_reverse _
 show wpAny _ _ (mkBytes (if little=true then KTBy.low x k else (KTBy.low x k).reverse).toArray >>= fun v=>ret v) _ _ s
 rw [key]
 refine wpAny_bind (wpAny_mkBytes (wpAny_pure ⟨_,rfl,hq _ _⟩) ?_)
 rw [sizeLine_eq]
 refine Nat.le_trans (Nat.le_of_eq (show (cond little (beN k x.toNat).reverse (beN k x.toNat)).length=k from ?_)) (Nat.le_trans (Int.ofNat_le.mp h.2.1) (by decide))
 cases little with
 |true=>exact (List.length_reverse ..).trans (beN_length ..)
 |false=>exact beN_length ..
theorem toB_ok (I:Inv cx F aux σ s.heap){va vb a b}(ha:VR va a)(hb:VR vb b){little:Bool}{v:Tok}(q:wpToB little a b σ Q) :
  wpAny cx.M A (call (.builtin "int.to_bytes") [va,vb,.str (PySem.Str.ofString (if little then "little" else "big")) v]) (PV cx F aux s Q) E s:=
 vI_ ha q fun x t q=>vI_ hb q fun k u q=>(Int.eq_ofNat_of_zero_le q.1.1).elim fun k e=>by
  subst e
  exact toB_int q.1 fun t' k'=>pv_val I (VR.bytesL _ _) q.2
theorem bitlen_eq (i:Int):(Builtin.Int.intBits i:Nat)=bitlen i:=by
 unfold Builtin.Int.intBits bitlen
 by_cases h:i=0
 ·subst h;rfl
 ·have:(i==0)=false:=beq_false_of_ne h
  simp [this,h]
theorem bitl_ok (I:Inv cx F aux σ s.heap){i:Int}{t:Tok}(q:Q (.int (bitlen i)) σ) :
  wpAny cx.M A (call (.builtin "int.bit_length") [.int i t]) (PV cx F aux s Q) E s:=
 call_int_bit_length (pv_val I (by rw [bitlen_eq];exact .int ..) q)
theorem grown' {n k:Nat}{M:Model}{Q:Value→Shared→Prop}(hk:k≤1000000)(hn:n<256^k)(h:Q (.int (n:Int) s.toks) {s with toks:=s.toks+1}):wpAny M A (mkIntGrown (n:Int)) Q E s:=by
 unfold mkIntGrown
 have hl:¬((n:Int).natAbs.log2≥bitsLine):=by
  rw [Int.natAbs_natCast]
  have hb:bitsLine=134217728:=by first |rfl |decide
  by_cases hz:n=0
  ·subst hz;rw [hb];decide
  ·have e:(256:Nat)^k=2^(8*k):=by rw [Nat.pow_mul]
   rw [e] at hn
   have h1:=(Nat.log2_lt hz).mpr hn
   lia
 rw [if_neg hl]
 exact wpAny_mkInt h
theorem tree_big' {M:Model}{b:Array UInt8}{t u:Tok}{P:Fin→Shared→Prop}(hl:b.size≤1000000)(h:P (.done (.ret (.int (valB b.toList) s.toks))) {s with toks:=s.toks+1}) :
  wpAny M A (Builtin.«int.from_bytes» ⟨[.type "int",.bytes b t,.str (PySem.Str.ofString "big") u],[]⟩) P E s:=by
 have hn:b.toList.foldl (fun (acc:Nat) (b:UInt8)=>acc*256+b.toNat) 0<256^b.size:=by
  have h1:=KFB.fold_lt b.toList 0
  rw [Nat.zero_add,Nat.one_mul,Array.length_toList] at h1
  exact h1
 unfold Builtin.«int.from_bytes»
 refine wpAny_bind (wpAny_of_eq (a:=true) KFB.type_int ?_)
 refine KFB.if_not rfl ?_
 refine wpAny_bind (wpAny_of_eq (a:=true) PySem.F.conv_sub_int ?_)
 refine KFB.if_not rfl ?_
 refine wpAny_bind (wpAny_of_eq (a:=[some (.bytes b t),some (.str (PySem.Str.ofString "big") u),none]) (by kernel_rfl) ?_)
 refine wpAny_bind (wpAny_of_eq (a:=PySem.Str.ofString "big") (by kernel_rfl) ?_)
 refine wpAny_bind (wpAny_of_eq (a:=false) rfl ?_)
 refine wpAny_bind (wpAny_of_eq (a:=false) (by kernel_rfl) ?_)
 refine wpAny_bind (wpAny_of_eq (a:=b) rfl ?_)
 show wpAny _ _ (mkIntGrown (b.toList.foldl (fun (acc:Int) (b:UInt8)=>acc*256+(b.toNat:Int)) ((0:Nat):Int)) >>= fun v=>_) _ _ _
 rw [KFB.foldI_eq]
 refine wpAny_bind (grown' hl hn ?_)
 refine KFB.if_so (by decide +kernel) ?_
 exact wpAny_bind (wpAny_pure (wpAny_pure h))
theorem frB_ok (I:Inv cx F aux σ s.heap){x:Addr}{va}{l:List UInt8}(ha:VR va (.bytes l)){u:Tok}(ho:KFB.StandsAt x s.heap)(hl:l.length≤1000000)(q:Q (.int (valB l)) σ) :
  wpAny cx.M A (call (.ref x) [va,.str (PySem.Str.ofString "big") u]) (PV cx F aux s Q) E s:=by
 obtain ⟨t,rfl⟩:=ha.bytes'
 exact KFB.call_of ho (fun z=>tree_big' (by simpa using hl) z) (pv_val I (.int ..) (by simpa using q))
end
end Internal
end
section
open PySem PySem.W PySem.Calls PyProof.Rows
set_option maxRecDepth 100000
namespace Internal
open PySem.SeqAt PySem.AutoSeq1
noncomputable def SetOK (K:Frag)(C:Addr)(n:PySem.Str):Prop:=findIn K (.ref C) "__setattr__" = some (some (.builtin "object.__setattr__"))∧plainOver K C=true∧takerIn K C n=some none∧hasDictIn K C=true
noncomputable def GetOK (K:Frag)(C:Addr)(n:PySem.Str):Prop:=plainGet K C n=true∧hasDictIn K C=true∧findIn K (.ref C) n=some none
structure Good2 (cx:Cx):Prop extends Good cx where
 att:∀C n,attrOK C n=true→SetOK cx.K C (Str.ofString n)∧GetOK cx.K C (Str.ofString n)
theorem upd_list {d:Addr}{o o':Obj}:∀{l:List (Addr×Obj)},(l.map (·.1)).Nodup→(d,o)∈l→∃l',Upd d o o' l l'∧(d,o')∈l'∧∀p∈l,p.1≠d→p∈l'
 | [],_,h=>nomatch h
 |p::r,hn,h=>by
  rw [List.map_cons,List.nodup_cons] at hn
  by_cases q:p.1=d
  ·have hp:p=(d,o):=by
    rcases List.mem_cons.mp h with h |h
    ·exact h.symm
    ·exact absurd (List.mem_map.mpr ⟨_,h,q.symm⟩) hn.1
   subst hp
   exact ⟨_,.head fun z hz e=>hn.1 (List.mem_map.mpr ⟨z,hz,e⟩),.head _,fun z hz ne=>by
    rcases List.mem_cons.mp hz with rfl |hz
    ·exact absurd rfl ne
    ·exact .tail _ hz⟩
  ·have h:(d,o)∈r:=by
    rcases List.mem_cons.mp h with h |h
    ·exact absurd (by rw [←h]) q
    ·exact h
   obtain ⟨l',u,m,k⟩:=upd_list (o':=o') hn.2 h
   exact ⟨_,.tail q u,.tail _ m,fun z hz ne=>by
    rcases List.mem_cons.mp hz with rfl |hz
    ·exact .head _
    ·exact .tail _ (k z hz ne)⟩
theorem allNews_nodup (B:Heap)(L:Addr)(h:Heap):((allNews B L h).map (·.1)).Nodup:=by
 unfold allNews
 rw [List.Nodup,List.pairwise_map,List.pairwise_filterMap]
 refine List.Pairwise.imp ?_ (List.nodup_range (n:=h.objs.size))
 intro a b ne x hx y hy e
 split at hx
 ·cases hx
 ·split at hy
  ·cases hy
  ·obtain ⟨_,_,rfl⟩:=Option.map_eq_some_iff.mp hx
   obtain ⟨_,_,rfl⟩:=Option.map_eq_some_iff.mp hy
   exact ne e
section
variable {cx:Cx}{F:List Ns1}{aux:List (Addr×Obj)}{σ σ':Sto}{s:Shared}{A:Around}{E:Value→Shared→Prop}{Q:PX}{L:Addr}{m m':PySem.Str→Option Value}{n:Nat}{h h':Heap}
inductive PT (cx:Cx)(F:List Ns1)(aux:List (Addr×Obj))(s:Shared)(R:Sto→Prop)(s':Shared):Prop
 |mk (σ':Sto):SS s s'→Inv cx F aux σ' s'.heap→R σ'→PT cx F aux s R s'
theorem same_keep {d:Addr}(k:Heap.SameBut d h h'):∀b ob,b≠d→h.get? b=some ob→h'.get? b=some ob:=fun b ob n e=>k.extBut b ob n e
theorem VRs.snoc {vs as}(h:VRs vs as){v a}(k:VR v a):VRs (vs++[v]) (as++[a]):=h.append (.cons k .nil)
theorem OR_S {a:Nat}{b:Bool}{kk:List (PySem.Str×Value)}{kv}(hd:h.DictOf (PySem.strKind cx.prog cx.w) a kk)(hr:KVs kk kv)(ne:kv≠[]):OR cx h a (.dict b kv):=
 ⟨hd.elim fun o x=>⟨o,x.elim fun es x=>⟨es,x.elim fun ep x=>⟨_,x.1,x.2.2.1⟩⟩⟩,fun ω=>⟨_,hd,hr⟩,fun z=>by
  cases hr with
  |nil=>exact absurd rfl ne
  |cons _ _=>cases z⟩
theorem OR_I {a:Nat}{b:Bool}{kk:List (Int×Value)}{kv}(hd:h.DictOf (intKind cx.prog cx.w) a kk)(hr:KVi kk kv)(ne:kv≠[]):OR cx h a (.dict b kv):=
 ⟨hd.elim fun o x=>⟨o,x.elim fun es x=>⟨es,x.elim fun ep x=>⟨_,x.1,x.2.2.1⟩⟩⟩,(fun z=>by
  cases hr with
  |nil=>exact absurd rfl ne
  |cons _ _=>cases z),fun ω=>⟨_,hd,hr⟩⟩
theorem OR_0 {a:Nat}{b:Bool}(hs:h.DictOf (PySem.strKind cx.prog cx.w) a [])(hi:h.DictOf (intKind cx.prog cx.w) a []):OR cx h a (.dict b []):=
 ⟨hs.elim fun o x=>⟨o,x.elim fun es x=>⟨es,x.elim fun ep x=>⟨_,x.1,x.2.2.1⟩⟩⟩,fun ω=>⟨_,hs,.nil⟩,fun ω=>⟨_,hi,.nil⟩⟩
theorem dset_ne (k v:V)(kv:List (V×V)):dset k v kv≠[]:=by
 unfold dset
 cases h:kv.any (fun p=>keyEq k p.1) with
 |true=>
  cases kv with
  |nil=>cases h
  |cons _ _=>exact nofun
 |false=>exact List.append_ne_nil_of_right_ne_nil _ nofun
theorem dict_mapSeq (o:Obj)(f:Array Value→Array Value):(o.mapSeq f).dict=o.dict:=by
 unfold Obj.mapSeq;split<;>rfl
theorem append_d {prog:Program}{w:World}{A:Around}{E:Value→Shared→Prop}{s:Shared}{l:Addr}{items:Array Value}{x:Value}{Q:Value→Shared→Prop}(hl:s.heap.IsList l items)(hdn:∀o,s.heap.get? l=some o→o.dict=none)
  (hQ:∀h',h'.IsList l (items.push x)→Heap.SameBut l s.heap h'→(∀o,h'.get? l=some o→o.dict=none)→Q .none {s with heap:=h'})(hsz:items.size≤sizeLine:=by size_fits) :
  wpAny (model prog w) A (call (.builtin "list.append") [.ref l,x]) Q E s:=by
 obtain ⟨o,ho,hc,n,hd⟩:=id hl
 obtain ⟨n',hd'⟩:=Obj.data_mapSeq hd (·.push x)
 refine wpAny_call_entry slot_list_append hl.typeIs entry_list_append ?_ (args_list_append _ _)
 show wpAny _ _ (updateSeq l (·.push x) >>= fun ω=>ret .none) _ _ s
 refine wpAny_bind ?_
 have g:=Heap.get?_update_self (Obj.mapSeq (·.push x)) ho (Obj.isFreed_of_seq hd')
 refine wpAny_updateSeq ho hd (wpAny_pure ⟨.none,rfl,hQ _ ⟨_,g,(Obj.cls_mapSeq ..).trans hc,n',hd'⟩ (Heap.SameBut.update ..) fun o' e=>?_⟩)
 rw [g] at e;cases e
 rw [dict_mapSeq];exact hdn o ho
theorem setItem_d {prog:Program}{w:World}{A:Around}{E:Value→Shared→Prop}{s:Shared}{l:Addr}{items:Array Value}{k:Int}{t:Tok}{v:Value}{Q:Unit→Shared→Prop}(hl:s.heap.IsList l items)(hdn:∀o,s.heap.get? l=some o→o.dict=none)
  (h0:0≤k)(hfit:k<2^63)(hn:k<items.size)
  (hQ:∀h',h'.IsList l (items.setIfInBounds k.toNat v)→Heap.SameBut l s.heap h'→(∀o,h'.get? l=some o→o.dict=none)→Q () {s with heap:=h'}) :
  wpAny (model prog w) A (setItem (.ref l) (.int k t) v) Q E s:=by
 obtain ⟨o,ho,hc,ne,hd⟩:=id hl
 unfold setItem
 try with_reducible refine wpAny_holding ?_
 first |refine wpAny_bind (wpAny_pure ?_) |skip
 refine wpAny_bind (wpAny_sequenceKey hl.typeIs (by decide) ?_)
 refine wpAny_bind (wpAny_callSpecial?_slot (name:=PySem.Str.ofString "__setitem__") hl.typeIs slot_list_setitem
  (wpAny_call_entry slot_list_setitem hl.typeIs entry_list_setitem ?_ (args_list_setitem _ _ _)))
 show wpAny _ _ (Builtin.List.listSubscript? (.int k t) >>= _) _ _ s
 refine wpAny_bind (wpAny_listSubscript_int (fitsIndex_of h0 hfit) ?_)
 clear hfit
 obtain ⟨j,rfl⟩:=Int.eq_ofNat_of_zero_le h0
 have hj:j<items.size:=by lia
 have hx':items[j]? = some items[j]:=Array.getElem?_eq_getElem hj
 show wpAny _ _ ((seqItemAt l j >>= fun r=>pure (r.map (j,·))) >>= _) _ _ s
 refine wpAny_bind (wpAny_bind (wpAny_seqItemAt ho hd (wpAny_pure ?_)))
 rw [hx']
 show wpAny _ _ (setSeqItemAt l j v >>= _) _ _ s
 obtain ⟨n',hd'⟩:=Obj.data_mapSeq hd (·.setIfInBounds j v)
 have g:=Heap.get?_update_self (Obj.mapSeq (·.setIfInBounds j v)) ho (Obj.isFreed_of_seq hd')
 have hfin:(s.heap.update l (Obj.mapSeq (·.setIfInBounds j v))).IsList l (items.setIfInBounds j v):=⟨_,g,(Obj.cls_mapSeq ..).trans hc,n',hd'⟩
 have hfd:∀o',(s.heap.update l (Obj.mapSeq (·.setIfInBounds j v))).get? l=some o'→o'.dict=none:=fun o' e=>by rw [g] at e;cases e;rw [dict_mapSeq];exact hdn o ho
 refine wpAny_bind (wpAny_setSeqItemAt ho hd ?_)
 first
  |exact wpAny_bind (wpAny_pure (wpAny_pure ⟨.none,rfl,wpAny_pure (hQ _ hfin (Heap.SameBut.update ..) hfd)⟩))
  |exact wpAny_pure ⟨.none,rfl,wpAny_pure (hQ _ hfin (Heap.SameBut.update ..) hfd)⟩
theorem pt_upd {a:Nat}{o o':O}{s':Shared}{R:Sto→Prop}(I:Inv cx F aux σ s.heap)(ss:SS s s')(e:σ a=some o)(ht:o.fixed=false)(sb:Heap.SameBut a s.heap s'.heap)(q:upd1 a o' σ R)(x:OR cx s'.heap a o'):PT cx F aux s R s':=
 ⟨_,ss,I.upd e ht (same_keep sb) x,q _ put_ext1 (put_self ..)⟩
theorem setI_ok (I:Inv cx F aux σ s.heap){vo vi vv o i v}(ho:VR vo o)(hi:VR vi i)(hv:VR vv v){R:Sto→Prop}(q:wpSet o i v σ R) :
  wpAny cx.M A (setItem vo vi vv) (fun ω s'=>PT cx F aux s R s') E s:=by
 refine vR_ ho q fun a q=>?_
 cases i<;>first |exact q.elim |skip
 ·exact hi.int'.elim fun u e=>e▸q.elim
   (fun q=>q.elim fun vs q=>(I.sto _ _ q.1).elim fun c p=>have hl:c.size=vs.length:=p.2.1.length
    setItem_d p.1 (p.2.2 rfl) q.2.1 (Int.lt_of_le_of_lt q.2.2.2.1 (by decide)) ((Int.toNat_lt q.2.1).mp (hl▸q.2.2.1)) fun h' l' sb dn=>pt_upd I ⟨rfl,rfl,rfl⟩ q.1 rfl sb q.2.2.2.2 ⟨_,l',by rw [Array.toList_setIfInBounds];exact p.2.1.set hv _,fun ω=>dn⟩)
   fun q=>q.elim fun kv q=>((I.sto _ _ q.1).2.2 q.2.1).elim fun kk p=>wpAny_setItem_pairs (intKind_is _ _ _ u) p.1 (fun h' hd' sb=>pt_upd I ⟨rfl,rfl,rfl⟩ q.1 rfl sb q.2.2.2 (OR_I hd' (p.2.stored koI hv) (dset_ne _ _ _))) (by rw [p.2.length,sizeLine_eq];first |exact Nat.le_trans q.2.2.1 (by decide) |exact Nat.lt_of_le_of_lt q.2.2.1 (by decide))
 ·exact hi.str'.elim fun u e=>e▸q.elim fun kv q=>((I.sto _ _ q.1).2.1 q.2.1).elim fun kk p=>
   wpAny_setItem_pairs (strKind_is _ _ _ u) p.1 (fun h' hd' sb=>pt_upd I ⟨rfl,rfl,rfl⟩ q.1 rfl sb q.2.2.2 (OR_S hd' (p.2.stored koS hv) (dset_ne _ _ _))) (by rw [p.2.length,sizeLine_eq];first |exact Nat.le_trans q.2.2.1 (by decide) |exact Nat.lt_of_le_of_lt q.2.2.1 (by decide))
theorem app_ok (I:Inv cx F aux σ s.heap){vo vv o v}(ho:VR vo o)(hv:VR vv v){R:Sto→Prop}(q:wpApp o v σ R) :
  wpAny cx.M A (call (.builtin "list.append") [vo,vv]) (fun r s'=>r=.none∧PT cx F aux s R s') E s:=
 vR_ ho q fun a q=>q.elim fun vs q=>(I.sto _ _ q.1).elim fun c p=>have hl:c.size=vs.length:=p.2.1.length
  append_d p.1 (p.2.2 rfl) (fun h' l' sb dn=>⟨rfl,pt_upd I ⟨rfl,rfl,rfl⟩ q.1 rfl sb q.2.2 ⟨_,l',by rw [Array.toList_push];exact p.2.1.snoc hv,fun ω=>dn⟩⟩) (by rw [sizeLine_eq,hl];exact Nat.le_trans q.2.1 (by decide))
theorem dcp_ok (G:Good cx)(I:Inv cx F aux σ s.heap){va a}(ha:VR va a)(q:wpDcp a σ Q) :
  wpAny cx.M A (call (.type "dict") [va]) (PV cx F aux s Q) E s:=
 vR_ ha q fun a q=>q.elim fun b q=>q.elim fun kv q=>((I.sto _ _ q.1).2.1 q.2.1).elim fun kk p=>
  kt_call_dict (I.notSys G q.1) p.1 (by rw [p.2.length,sizeLine_eq];first |exact Nat.lt_of_le_of_lt q.2.2.2.1 (by decide) |exact Nat.le_trans q.2.2.2.1 (by decide)) fun h' hd' sb=>
   pv_new I ⟨rfl,rfl,rfl⟩ (fun b o e=>sb.extBut b o (Nat.ne_of_lt (Heap.lt_size e)) (Heap.get?_push_of_some _ e)) (OR_S hd' p.2 q.2.2.1) q.2.2.2.2
theorem isStr_ofString {x y:String}{t:Tok}:(Value.str (Str.ofString x) t).isStr (Str.ofString y)=(y==x):=by
 show (Str.ofString x==Str.ofString y)=(y==x)
 by_cases q:y=x
 ·rw [q,beq_self_eq_true,beq_self_eq_true]
 ·rw [beq_false_of_ne q];exact beq_false_of_ne fun z=>q (ofString_inj z).symm
theorem FR.noRef {P:Params}{es fs}(h:FR P es fs):es.any (·.refKey)=false:=by
 induction h with
 |nil=>rfl
 |cons _ _ _ ih=>rw [List.any_cons,ih];rfl
theorem FR.get {P:Params}{x:String}{es fs}(h:FR P es fs){a:V}:fget x fs=some a→∃v,es.find? (·.key.isStr (Str.ofString x))=some v∧VR v.val a:=by
 induction h with
 |nil=>exact nofun
 |cons h k r ih=>
  intro e
  rw [List.find?_cons,isStr_ofString]
  rw [fget] at e
  cases q:x==‹String› with
  |true=>rw [q] at e;exact ⟨_,rfl,Option.some.inj e▸k⟩
  |false=>rw [q] at e;exact ih e
theorem FR.getNone {P:Params}{x:String}{es fs}(h:FR P es fs):fget x fs=none→es.find? (·.key.isStr (Str.ofString x))=none:=by
 induction h with
 |nil=>exact fun ω=>rfl
 |cons h k r ih=>
  intro e
  rw [List.find?_cons,isStr_ofString]
  rw [fget] at e
  cases q:x==‹String› with
  |true=>rw [q] at e;cases e
  |false=>rw [q] at e;exact ih e
theorem FR.getL {P:Params}{x:String}{es fs}(r:FR P es fs){a}(e:fget x fs=some a):∃v,PySem.W.getL (Str.ofString x) es=some (some v)∧VR v a:=by
 obtain ⟨v,h,k⟩:=r.get e
 exact ⟨_,by unfold PySem.W.getL;rw [h],k⟩
theorem FR.getLNone {P:Params}{x:String}{es fs}(r:FR P es fs)(e:fget x fs=none):PySem.W.getL (Str.ofString x) es=some none:=by
 unfold PySem.W.getL;rw [r.getNone e,r.noRef];rfl
theorem FR.put {P:Params}{x:String}{t v a}(k:VR v a){es fs}(h:FR P es fs):FR P (putL (Str.ofString x) (PyData.keyHash P (Str.ofString x)) (.str (Str.ofString x) t) v es) (fset x a fs):=by
 induction h with
 |nil=>exact .cons rfl k .nil
 |cons h k' r ih=>
  rw [putL,fset,isStr_ofString]
  cases q:x==‹String› with
  |true=>rw [if_pos rfl,if_pos rfl];exact .cons h k r
  |false=>rw [if_neg nofun,if_neg nofun];exact .cons h k' ih
theorem fset_length (x:String)(a:V):∀fs:List (String×V),(fset x a fs).length≤fs.length+1
 | []=>Nat.le_refl _
 |(k,v)::r=>by
  rw [fset]
  cases x==k with
  |true=>exact Nat.le_succ _
  |false=>exact Nat.succ_le_succ (fset_length x a r)
theorem FR.length {P:Params}{es fs}(h:FR P es fs):es.length=fs.length:=by
 induction h with
 |nil=>rfl
 |cons _ _ _ ih=>exact congrArg Nat.succ ih
theorem Inv.inst (I:Inv cx F aux σ h){x C dx:Nat}{fs}(e:σ x=some (.inst C dx))(e2:σ dx=some (.idict fs)):∃es n,InstAt h x (instObj C dx) C (some (dictOf es n))∧h.get? dx=some (dictOf es n)∧FR cx.w.params es fs:=by
 obtain ⟨es,n,g,r,_⟩:=I.sto _ _ e2
 exact ⟨es,n,⟨I.sto _ _ e,rfl,rfl,g⟩,g,r⟩
theorem VR.handed {v a}(h:VR v a):handedIn v=true:=by cases h<;>rfl
theorem att_ok (G:Good2 cx)(I:Inv cx ((L,m)::F) aux σ s.heap){va a}(ha:VR va a){nm:String}{ex:Bool}(q:wpAtt nm a σ Q) :
  wpAny cx.M A (getAttr va (Str.ofString nm) ex) (PV cx ((L,m)::F) aux s Q) E s:=
 vR_ ha q fun x q=>q.elim fun C q=>q.elim fun dx q=>q.elim fun fs q=>q.elim fun v q=>(I.inst q.1 q.2.1).elim fun es i=>i.elim fun n i=>
  have g:=(G.att _ _ q.2.2.1).2
  (i.2.2.getL q.2.2.2.1).elim fun v' x=>get_own I.fr G.K i.1 g.1 g.2.1 g.2.2 rfl x.1 x.2.handed (pv_val I x.2 q.2.2.2.2)
theorem setA_ok (G:Good2 cx)(I:Inv cx ((L,m)::F) aux σ s.heap){vo vv o v}(ho:VR vo o)(hv:VR vv v){nm:String}{R:Sto→Prop}(q:wpSetA nm o v σ R) :
  wpAny cx.M A (setAttr vo (Str.ofString nm) vv) (fun ω s'=>PT cx ((L,m)::F) aux s R s') E s:=
 vR_ ho q fun x q=>q.elim fun C q=>q.elim fun dx q=>q.elim fun fs q=>(I.inst q.1 q.2.1).elim fun es i=>i.elim fun n i=>by
  have g:=(G.att _ _ q.2.2.1).1
  have r:=i.2.2
  have sp:=I.sep _ _ q.2.1
  have hl:(PySem.W.getL (Str.ofString nm) es).isSome=true:=by
   cases q:fget nm fs with
   |none=>rw [r.getLNone q];rfl
   |some a=>exact (r.getL q).elim fun v' z=>by rw [z.1];rfl
  have r':=r.put (x:=nm) (t:=s.toks+1) hv
  have hz:(fset nm v fs).length≤901:=Nat.le_trans (fset_length nm v fs) (Nat.succ_le_succ q.2.2.2.1)
  refine (upd_list (o':=dictOf (putL (Str.ofString nm) (PyData.keyHash cx.w.params (Str.ofString nm)) (.str (Str.ofString nm) (s.toks+1)) vv es) (putN (Str.ofString nm) es n)) (allNews_nodup cx.base L s.heap) (mem_allNews i.2.1 (fun z=>sp.1 (z▸.head _)) (base_none (sp.2.2.resolve_right nofun)))).elim fun l' u=>?_
  refine set_dict I.fr G.K (news_all _ _ _) i.1 rfl g.1 g.2.1 g.2.2.1 g.2.2.2 hl rfl u.1 (by rw [r'.length];exact Nat.le_trans hz (by decide)) fun h' F' N'=>?_
  have x:OR cx h' dx (.idict (fset nm v fs)):=⟨_,_,(N' _ u.2.1).1,r',Nat.le_trans hz (by decide)⟩
  refine ⟨_,⟨rfl,rfl,rfl⟩,I.upd2 q.2.1 rfl (fun b ob n1 n2 eb=>?_) F'.ns x,q.2.2.2.2 _ put_ext1 (put_self ..)⟩
  cases z:cx.base.get? b with
  |none=>exact (N' _ (u.2.2 _ (mem_allNews eb n2 z) n1)).1
  |some o'=>exact F'.keep b _ (by rw [z,←I.stays b o' z,eb])
end
end Internal
end
section
open PySem PySem.W PySem.Calls PyProof.Rows
set_option maxRecDepth 100000
namespace Internal
noncomputable def frs (envs:List Env):List Addr:=envs.filterMap (·.frame)
structure EnvsOK (envs:List Env)(F:List Ns1):Prop where
 ok:∀env∈envs,env.scope.kind≠.module∧∃L,env.frame=some L∧L∈F.map (·.1)
noncomputable def Rel (cx:Cx)(F:List Ns1)(aux:List (Addr×Obj))(σ:Sto)(envs:List Env)(b:Addr):Prop:=
 (cx.base.get? b).isSome∨(σ b).isSome∨b∈aux.map (·.1)∨(b∈F.map (·.1)∧b∉frs envs)
noncomputable def Tra (h B:Heap)(e:Addr)(cls:Value):Prop:=∃a0 fl,h.TracedAtW B e cls a0 fl
noncomputable def Raw (h:Heap)(e:Addr)(cls:Value):Prop:=∃oe vs a0,h.get? e=some oe∧oe.cls=cls∧oe.data=.fields vs∧vs[0]? = some a0∧vs[1]? = some .none
structure Fly (cx:Cx)(F:List Ns1)(aux:List (Addr×Obj))(σ:Sto)(envs:List Env)(e:Addr)(cls:Value)(t:Bool)(h:Heap):Prop where
 inv:Inv cx F aux σ h
 fl:∃B:Heap,B.StaysIn h∧B.get? e=none∧h.FunFrames B envs∧(∀b o,h.get? b=some o→Rel cx F aux σ envs b→B.get? b=some o)∧(Tra h B e cls∨(t=false∧Raw h e cls))
section
variable {cx:Cx}{F F':List Ns1}{aux aux':List (Addr×Obj)}{σ σ':Sto}{h h':Heap}{envs outer:List Env}{e:Addr}{cls:Value}{t:Bool}{L:Addr}{m m':PySem.Str→Option Value}
 {M:Model} {A:Around} {E:Value→Shared→Prop} {s:Shared} {Q:Unit→Shared→Prop} {env env':Env} {p:Ns1}
theorem Inv.slots (I:Inv cx F aux σ h){B:Heap}(hB:∀b o,h.get? b=some o→Rel cx F aux σ envs b→B.get? b=some o)(st:B.StaysIn h')(up:h.UpToSlots h'):Inv cx F aux σ h' where
 ne:=I.ne
 stays:=fun b o e=>st _ _ (hB b o (I.stays b o e) (.inl (by rw [e];rfl)))
 ns:=fun p hp=>⟨up.ns (I.ns p hp).1,(I.ns p hp).2⟩
 nd:=I.nd
 auxs:=fun q hq=>⟨st _ _ (hB _ _ (I.auxs q hq).1 (.inr (.inr (.inl (List.mem_map.mpr ⟨q,hq,rfl⟩))))),(I.auxs q hq).2⟩
 sto:=fun a o q=>(I.sto a o q).at' fun ob z=>st _ _ (hB _ _ z (.inr (.inl (by rw [q];rfl))))
 sep:=I.sep
theorem Inv.rel_ex (I:Inv cx F aux σ h){b:Addr}(r:Rel cx F aux σ envs b):∃o,h.get? b=some o:=
 r.elim (fun r=>(Option.isSome_iff_exists.mp r).elim fun o q=>⟨o,I.stays _ _ q⟩) fun r=>
 r.elim (fun r=>(Option.isSome_iff_exists.mp r).elim fun o q=>(I.sto _ _ q).ex.elim fun ob z=>⟨ob,z.1⟩) fun r=>
 r.elim (fun r=>(List.mem_map.mp r).elim fun p hp=>⟨_,hp.2▸(I.auxs p hp.1).1⟩) fun r=>(List.mem_map.mp r.1).elim fun p hp=>hp.2▸(I.ns p hp.1).1.elim fun o x=>x.elim fun ω x=>x.elim fun ω x=>⟨o,x.1⟩
theorem Rel.mono {b:Addr}{envs':List Env}(r:Rel cx F' aux' σ envs' b)(f:b∈F'.map (·.1)→b∉frs envs'→b∈F.map (·.1)∧b∉frs envs)(a:∀q∈aux',q∈aux):Rel cx F aux σ envs b:=
 r.imp id fun r=>r.imp id fun r=>r.imp (fun r=>(List.mem_map.mp r).elim fun q hq=>List.mem_map.mpr ⟨q,a q hq.1,hq.2⟩) fun r=>f r.1 r.2
theorem Fly.next {B:Heap}(I:Inv cx F aux σ h)(hB:∀b o,h.get? b=some o→Rel cx F aux σ envs b→B.get? b=some o)(he:B.get? e=none)(st:B.StaysIn h')(up:h.UpToSlots h')(fr:h'.FunFrames B envs)(tr:Tra h' B e cls) :
  Fly cx F aux σ envs e cls t h':=
 ⟨I.slots hB st up,B,st,he,fr,fun b o eo r=>(I.rel_ex r).elim fun o' q=>
  have z:=hB b o' q r
  Option.some.inj ((st b o' z).symm.trans eo)▸z,.inl tr⟩
theorem Fly.weak (x:Fly cx F aux σ envs e cls true h):Fly cx F aux σ envs e cls t h:=
 ⟨x.inv,x.fl.elim fun B y=>⟨B,y.1,y.2.1,y.2.2.1,y.2.2.2.1,.inl (y.2.2.2.2.resolve_right fun q=>by cases q.1)⟩⟩
theorem entry_any {base:Heap}{env env':Env}{outer:List Env}{L e:Addr}{oe:Obj}{vs:Array Value}{head a0:Value}{hadNext:Bool}{Q:Unit→Shared→Prop}
  (hfr:A.frames=some (env'::outer))(hl:s.heap.FunFrames base (env'::outer))(hf:env'.frame=some L)(hf':env.frame=some L)
  (he:s.heap.get? e=some oe)(hkb:base.StaysIn s.heap)(hen:base.get? e=none)(hd:oe.data=.fields vs)(hsz:1<vs.size)(h0:vs[0]? = some a0)
  (h:∀h',Heap.NotedW base (env'::outer) e oe.cls a0 (rawInt L) s.heap h'→Q () {s with heap:=h'}) :
  wpAny M A (do let a←PySem.frameOf env;let pl←entryPlaceOf L hadNext;let b←EntryCells.newEntry head a .none (rawInt L) .none pl;setField (.ref e) 1 b) Q E s:=by
 have hfo:PySem.frameOf env=PySem.frameOf env':=by unfold PySem.frameOf;rw [hf,hf']
 rw [hfo]
 exact wpAny_entryW hfr hl hf he hkb hen hd hsz h0 h
theorem Tra1.elim {B:Heap}{a0 fl:Value}{P:Prop}(x:h.TracedAtW B e cls a0 fl)(k:∀(oe:Obj) (vs:Array Value) (T:Addr) (oT:Obj) (ts:Array Value),h.get? e=some oe→oe.cls=cls→vs[0]? = some a0→oe.data=.fields vs→vs[1]? = some (.ref T)→B.get? T=none→T≠e→h.get? T=some oT→oT.data=.fields ts→ts[3]? = some fl→P):P:=by
 obtain ⟨oe,vs,T,oT,ts,he,⟨hcls,h0⟩,hd,h1,hnT,hTe,hT,hdT,h3⟩:=x
 exact k oe vs T oT ts he hcls h0 hd h1 hnT hTe hT hdT h3
theorem upd_other {h:Heap}{T:Addr}{f:Obj→Obj}(b:Addr)(n:b≠T):(h.update T f).get? b=h.get? b:=Heap.get?_update_other _ _ (Ne.symm n)
theorem no_record {h:Heap}{T:Addr}{oT:Obj}{ts:Array Value}(hT:h.get? T=some oT)(hdT:oT.data=.fields ts)(b:Addr)(o:Obj)(hb:h.get? b=some o)(hnf:∀vs,o.data≠.fields vs):b≠T:=fun q=>hnf ts ((Option.some.inj (hb.symm.trans (q▸hT)))▸hdT)
theorem note_ok (hfr:A.frames=some (env'::outer))(hf:env'.frame=some L)(hf':env.frame=some L)(X:Fly cx F aux σ (env'::outer) e cls t s.heap)
  (hQ:∀h',Fly cx F aux σ (env'::outer) e cls true h'→Q () {s with heap:=h'}):wpAny M A (noteFrame (.ref e) env) Q E s:=by
 refine X.fl.elim fun B X'=>?_
 have fin:∀{h₀:Heap} {h' a0},(∀b o,s.heap.get? b=some o→(∀vs,o.data≠.fields vs)→h₀.get? b=some o)→Heap.NotedW B (env'::outer) e cls a0 (rawInt L) h₀ h'→Fly cx F aux σ (env'::outer) e cls true h':=fun k hN=>
  Fly.next X.inv X'.2.2.2.1 X'.2.1 hN.1 (fun b o q n=>hN.2.2.2 b o (k b o q n) n) hN.2.1 ⟨_,_,hN.2.2.1⟩
 unfold noteFrame
 simp only [hf']
 refine X'.2.2.2.2.elim (fun tr=>tr.elim fun a0 tr=>tr.elim fun fl tr=>?_) fun r=>r.2.elim fun oe r=>r.elim fun vs r=>r.elim fun a0 r=>?_
 ·refine Tra1.elim tr fun oe vs T oT ts he hcls h0 hd h1 hnT hTe hT hdT h3=>?_
  subst hcls
  refine wpAny_bind (wpAny_field he hd h1 (wpAny_ite_true (by rfl) (wpAny_bind (wpAny_field hT hdT h3 ?_))))
  by_cases hq:(fl==rawInt L)=true
  ·exact wpAny_ite_true (decide_eq_true hq) (wpAny_pure (hQ _ (Fly.next X.inv X'.2.2.2.1 X'.2.1 X'.1 (Heap.UpToSlots.refl _) X'.2.2.1 ⟨a0,fl,tr⟩)))
  ·refine wpAny_ite_false (decide_eq_false hq) (wpAny_bind (wpAny_setField hT hdT (Array.getElem?_eq_some_iff.mp h3).1 ?_))
   have other:=upd_other (h:=s.heap) (T:=T) (f:=Obj.mapFields (·.setIfInBounds 3 Value.none))
   have noRecord:=no_record hT hdT
   exact entry_any hfr (X'.2.2.1.of_keeps fun b o hb hnf=>⟨o,(other b (noRecord b o hb hnf)).trans hb,rfl⟩) hf hf' ((other e (Ne.symm hTe)).trans he)
    (fun b o hbo=>(other b fun q=>by rw [q,hnT] at hbo;cases hbo).trans (X'.1 b o hbo)) X'.2.1 hd (Array.getElem?_eq_some_iff.mp h1).1 h0
    fun h' hN=>hQ h' (fin (fun b o hb hnf=>(other b (noRecord b o hb hnf)).trans hb) hN)
 ·exact wpAny_bind (wpAny_field r.1 r.2.2.1 r.2.2.2.2 (wpAny_ite_false (by rfl)
   (entry_any hfr X'.2.2.1 hf hf' r.1 X'.1 X'.2.1 r.2.2.1 (Array.getElem?_eq_some_iff.mp r.2.2.2.2).1 r.2.2.2.1 fun h' hN=>hQ h' (fin (fun ω ω q ω=>q) (r.2.1▸hN)))))
theorem setFlight_any {f:Option Addr}(X:Fly cx F aux σ envs e cls true s.heap)
  (hQ:∀h',Fly cx F aux σ envs e cls true h'→Q () {s with heap:=h'}):wpAny M A (setFlight (.ref e) f) Q E s:=by
 refine X.fl.elim fun B X'=>(X'.2.2.2.2.resolve_right fun q=>by cases q.1).elim fun a0 tr=>tr.elim fun fl tr=>Tra1.elim tr fun oe vs T oT ts he hcls h0 hd h1 hnT hTe hT hdT h3=>?_
 have hsz3:3<ts.size:=(Array.getElem?_eq_some_iff.mp h3).1
 have other:=upd_other (h:=s.heap) (T:=T) (f:=Obj.mapFields (·.setIfInBounds 3 (f.elim Value.none fun f=>rawInt f)))
 have noRecord:=no_record hT hdT
 unfold setFlight
 refine wpAny_bind (wpAny_field he hd h1 (wpAny_ite_true (by rfl) (wpAny_setField hT hdT hsz3 (hQ _ ?_))))
 refine Fly.next X.inv X'.2.2.2.1 X'.2.1 (fun b o hbo=>(other b fun q=>by rw [q,hnT] at hbo;cases hbo).trans (X'.1 b o hbo)) (fun b o hb hn=>⟨o.slots,(other b (noRecord b o hb hn)).trans hb⟩)
  (X'.2.2.1.of_keeps fun b o hb hnf=>⟨o,(other b (noRecord b o hb hnf)).trans hb,rfl⟩) ?_
 exact ⟨a0,_,oe,vs,T,_,_,(other e (Ne.symm hTe)).trans he,⟨hcls,h0⟩,hd,h1,hnT,hTe,Heap.get?_update_self _ hT (Obj.isFreed_of_fields (Obj.data_mapFields hdT _)),Obj.data_mapFields hdT _,Array.getElem?_setIfInBounds_self_of_lt hsz3⟩
theorem Fly.field1 (X:Fly cx F aux σ envs e cls true s.heap){P:Value→Shared→Prop}(h:∀T,P (.ref T) s):wpAny M A (field (.ref e) 1) P E s:=
 X.fl.elim fun B X'=>(X'.2.2.2.2.resolve_right fun q=>by cases q.1).elim fun a0 tr=>tr.elim fun fl tr=>Tra1.elim tr fun oe vs T oT ts he hcls h0 hd h1 hnT hTe hT hdT h3=>wpAny_field he hd h1 (h T)
theorem passOn_any {α:Type}{what:String}{Q:α→Shared→Prop}(X:Fly cx F aux σ envs e cls true s.heap)
  (hQ:∀h',Fly cx F aux σ envs e cls true h'→E (.ref e) {s with heap:=h'}):wpAny M A (PySem.passOn what (.ref e) env:Sem α) Q E s:=by
 unfold PySem.passOn
 refine wpAny_bind (X.field1 fun T=>?_)
 rw [if_neg (show ¬(Value.ref T==Value.none)=true from by simp)]
 exact wpAny_bind (setFlight_any X fun h' Y=>wpAny_throw (hQ h' Y))
theorem cameBack_any (X:Fly cx F aux σ envs e cls true s.heap)(hQ:∀h',Fly cx F aux σ envs e cls true h'→E (.ref e) {s with heap:=h'}):cameBackBy M A env E (.ref e) s:=by
 unfold cameBackBy
 refine wpAny_bind (X.field1 fun T=>?_)
 rw [if_neg (show ¬(Value.ref T==Value.none)=true from by simp)]
 exact setFlight_any X fun h' Y=>hQ h' Y
theorem FunFrames.tail {B:Heap}(x:h.FunFrames B (env::outer)):h.FunFrames B outer:=x.2.2
theorem Inv.sub (I:Inv cx F aux σ h)(n:F'≠[])(f:F'.Sublist F)(a:∀q∈aux',q∈aux):Inv cx F' aux' σ h where
 ne:=n
 stays:=I.stays
 ns:=fun p hp=>I.ns p (f.subset hp)
 nd:=(f.map _).nodup I.nd
 auxs:=fun q hq=>⟨(I.auxs q (a q hq)).1,(I.auxs q (a q hq)).2.1,fun z=>(I.auxs q (a q hq)).2.2 ((f.map _).subset z)⟩
 sto:=I.sto
 sep:=fun b o e=>⟨fun z=>(I.sep b o e).1 ((f.map _).subset z),fun q hq=>(I.sep b o e).2.1 q (a q hq),(I.sep b o e).2.2⟩
theorem Fly.sub (X:Fly cx F aux σ envs e cls t h)(n:F'≠[])(f:F'.Sublist F)(a:∀q∈aux',q∈aux):Fly cx F' aux' σ envs e cls t h:=
 ⟨X.inv.sub n f a,X.fl.elim fun B y=>⟨B,y.1,y.2.1,y.2.2.1,fun b o q r=>y.2.2.2.1 b o q (r.mono (fun r n=>⟨(f.map _).subset r,n⟩) a),y.2.2.2.2⟩⟩
theorem Inv.aux_new (I:Inv cx F aux' σ h')(J:Inv cx F aux σ h){a:Nat}{o:Obj}(e:h'.get? a=some o)(n:h.objs.size≤a):Inv cx F ((a,o)::aux') σ h' where
 ne:=I.ne
 stays:=I.stays
 ns:=I.ns
 nd:=I.nd
 auxs:=fun q hq=>by
  rcases List.mem_cons.mp hq with rfl |hq
  ·exact ⟨e,Nat.le_trans J.big n,J.notF n⟩
  ·exact I.auxs q hq
 sto:=I.sto
 sep:=fun b ob z=>⟨(I.sep b ob z).1,fun q hq y=>by
  rcases List.mem_cons.mp hq with rfl |hq
  ·rw [←y,J.old n] at z;cases z
  ·exact (I.sep b ob z).2.1 q hq y,(I.sep b ob z).2.2⟩
theorem Inv.aux_to {ia:List (Addr×Obj)}(I:Inv cx F aux σ h)(sb:∀q∈ia,q∈aux)(k:∀b o,b∉ia.map (·.1)→h.get? b=some o→h'.get? b=some o)(np:∀q∈ia,pin q.2=false)
  (n:∀q∈aux',(q∈aux∧q.1∉ia.map (·.1))∨h'.get? q.1=some q.2∧(q.1∈ia.map (·.1)∨h.objs.size≤q.1)):Inv cx F aux' σ h':=
 have nF:∀b∈ia.map (·.1),b∉F.map (·.1):=List.forall_mem_map.mpr fun q hq=>(I.auxs q (sb q hq)).2.2
 have nB:∀b∈ia.map (·.1),cx.base.objs.size≤b:=List.forall_mem_map.mpr fun q hq=>(I.auxs q (sb q hq)).2.1
 have nS:∀b∈ia.map (·.1),∀{o},σ b≠some o:=List.forall_mem_map.mpr fun q hq {o} z=>Bool.false_ne_true ((np q hq).symm.trans ((I.sep _ _ z).2.1 q (sb q hq) rfl).2)
 {ne:=I.ne
  stays:=fun b o e=>k b o (fun z=>Option.some_ne_none _ (e.symm.trans (base_none (nB b z)))) (I.stays b o e)
  ns:=fun p hp=>⟨(I.ns p hp).1.at' fun o e=>k _ _ (fun z=>nF _ z (List.mem_map.mpr ⟨p,hp,rfl⟩)) e,(I.ns p hp).2⟩
  nd:=I.nd
  auxs:=fun q hq=>(n q hq).elim (fun y=>⟨k _ _ y.2 (I.auxs q y.1).1,(I.auxs q y.1).2⟩) fun y=>⟨y.1,y.2.elim (nB _) (Nat.le_trans I.big),y.2.elim (nF _) I.notF⟩
  sto:=fun b o e=>(I.sto b o e).at' fun ob z=>k _ _ (fun y=>nS b y e) z
  sep:=fun b o e=>⟨(I.sep b o e).1,fun q hq y=>(n q hq).elim (fun z=>(I.sep b o e).2.1 q z.1 y)
   fun z=>z.2.elim (fun z=>absurd e (nS b (y▸z))) fun z=>absurd (e.symm.trans (I.old (y▸z))) (Option.some_ne_none _),(I.sep b o e).2.2⟩}
theorem Inv.aux_set {ia ia':List (Addr×Obj)}(I:Inv cx F (ia++aux) σ h)(k:∀b o,b∉ia.map (·.1)→h.get? b=some o→h'.get? b=some o)(np:∀q∈ia,pin q.2=false)
  (ap:∀q∈aux,q.1∉ia.map (·.1))(n:∀q∈ia',h'.get? q.1=some q.2∧(q.1∈ia.map (·.1)∨h.objs.size≤q.1)):Inv cx F (ia'++aux) σ h':=
 I.aux_to (fun ω=>List.mem_append_left _) k np fun q hq=>(List.mem_append.mp hq).elim (fun z=>.inr (n q z)) fun z=>.inl ⟨List.mem_append_right _ z,ap q z⟩
theorem Inv.free (I:Inv cx F aux σ h){q:Addr×Obj}(hq:q∈aux)(np:pin q.2=false):σ q.1=none:=by
 cases z:σ q.1 with
 |none=>rfl
 |some o=>have:=((I.sep _ _ z).2.1 q hq rfl).2;rw [np] at this;cases this
theorem Inv.hand {o:Obj}{a:Nat}{ob:O}(I:Inv cx F ((a,o)::aux) σ h)(np:pin o=false)(ap:a∉aux.map (·.1))(k:∀b o,b≠a→h.get? b=some o→h'.get? b=some o)(x:OR cx h' a ob):Inv cx F aux (Internal.put σ a ob) h':=by
 have z:Inv cx F ([]++aux) σ h':=Inv.aux_set (ia:=[(a,o)]) (ia':=[]) I (fun b ob hb e=>k b ob (by simpa using hb) e) (fun q hq=>by rw [List.mem_singleton.mp hq];exact np)
  (fun q hq=>by simp;intro e;exact ap (List.mem_map.mpr ⟨q,hq,e⟩)) (fun q hq=>nomatch hq)
 have h0:=I.auxs _ (.head _)
 exact z.put x h0.2.2 (fun q hq e=>absurd (List.mem_map.mpr ⟨q,hq,e⟩) ap) h0.2.1
theorem leaving_any (hfr:A.frames=some (env::outer))(hf:env.frame=some L)(X:Fly cx ((L,m)::F) aux σ (env::outer) e cls t s.heap)(n:F≠[])(a:∀q∈aux',q∈aux)
  (hQ:∀h',Fly cx F aux' σ outer e cls true h'→Q () {s with heap:=h'}):wpAny M A (leaving env (.ref e)) Q E s:=by
 unfold leaving
 refine wpAny_bind (note_ok hfr hf hf X fun h₁ X₁=>setFlight_any (s:={s with heap:=h₁}) X₁ fun h₂ X₂=>hQ h₂ ?_)
 have f:F.Sublist ((L,m)::F):=List.sublist_cons_self _ _
 refine ⟨X₂.inv.sub n f a,X₂.fl.elim fun B y=>⟨B,y.1,y.2.1,y.2.2.1.2.2,fun b o q r=>y.2.2.2.1 b o q (r.mono (fun r n=>⟨(f.map _).subset r,fun z=>?_⟩) a),y.2.2.2.2⟩⟩
 rw [show frs (env::outer)=L::frs outer from List.filterMap_cons_some hf] at z
 exact (List.mem_cons.mp z).elim (fun z=>(List.nodup_cons.mp X.inv.nd).1 (z▸r)) n
inductive PEx (cx:Cx)(F:List Ns1)(aux:List (Addr×Obj))(envs:List Env)(g:Shared)(t:Bool)(P:PE)(v:Value)(s':Shared):Prop
 |mk (e:Addr) (c:Nat) (σ':Sto):v=.ref e→SS g s'→Fly cx F aux σ' envs e (.ref (clsAddr c)) t s'.heap→c=0∨c=1→P c σ'→PEx cx F aux envs g t P v s'
theorem PEx.weak {g:Shared}{P:PE}{v:Value}{s':Shared}(x:PEx cx F aux envs g true P v s'):PEx cx F aux envs g t P v s':=
 let ⟨e,c,σ',a,b,f,d,z⟩:=x;⟨e,c,σ',a,b,f.weak,d,z⟩
theorem PEx.noted {g:Shared}{P:PE}{v:Value}{s':Shared}(hfr:A.frames=some (env'::outer))(hf:env'.frame=some L)(hf':env.frame=some L)(x:PEx cx F aux (env'::outer) g t P v s')
  {E':Value→Shared→Prop}(hE:∀v s',PEx cx F aux (env'::outer) g true P v s'→E' v s'):notedBy M A env E' v s':=by
 obtain ⟨e,c,σ',rfl,b,f,d,z⟩:=x
 exact note_ok hfr hf hf' f fun h' Y=>hE _ _ ⟨e,c,σ',rfl,b.trans ⟨rfl,rfl,rfl⟩,Y,d,z⟩
theorem PEx.came {g:Shared}{P:PE}{v:Value}{s':Shared}(x:PEx cx F aux envs g true P v s'){E':Value→Shared→Prop}(hE:∀v s',PEx cx F aux envs g true P v s'→E' v s'):cameBackBy M A env E' v s':=by
 obtain ⟨e,c,σ',rfl,b,f,d,z⟩:=x
 exact cameBack_any f fun h' Y=>hE _ _ ⟨e,c,σ',rfl,b.trans ⟨rfl,rfl,rfl⟩,Y,d,z⟩
theorem PEx.sub {g:Shared}{P:PE}{v:Value}{s':Shared}(x:PEx cx F aux envs g t P v s')(n:F'≠[])(f:F'.Sublist F)(a:∀q∈aux',q∈aux):PEx cx F' aux' envs g t P v s':=
 let ⟨e,c,σ',q,b,y,d,z⟩:=x;⟨e,c,σ',q,b,y.sub n f a,d,z⟩
theorem PEx.from {g g':Shared}{P:PE}{v:Value}{s':Shared}(x:PEx cx F aux envs g t P v s')(k:SS g' g):PEx cx F aux envs g' t P v s':=
 let ⟨e,c,σ',q,b,y,d,z⟩:=x;⟨e,c,σ',q,k.trans b,y,d,z⟩
theorem PEx.mono {g:Shared}{P P':PE}{v:Value}{s':Shared}(x:PEx cx F aux envs g t P v s')(k:∀c σ,P c σ→P' c σ):PEx cx F aux envs g t P' v s':=
 let ⟨e,c,σ',q,b,y,d,z⟩:=x;⟨e,c,σ',q,b,y,d,k _ _ z⟩
theorem PV.from {g:Shared}{Q:PX}{v:Value}{s':Shared}(x:PV cx F aux s Q v s')(k:SS g s):PV cx F aux g Q v s':=
 let ⟨a,σ',b,r,i,q⟩:=x;⟨a,σ',k.trans b,r,i,q⟩
theorem PV.mono {Q Q':PX}{v:Value}{s':Shared}(x:PV cx F aux s Q v s')(k:∀v σ,Q v σ→Q' v σ):PV cx F aux s Q' v s':=
 let ⟨a,σ',b,r,i,q⟩:=x;⟨a,σ',b,r,i,k _ _ q⟩
end
end Internal
end
section
open PySem PySem.W PySem.Calls PyProof.Rows
set_option maxRecDepth 100000
namespace Internal
structure SC where
 nm:List String
 names:List (PySem.Str×NameKind)
noncomputable def fnTab:List (String×Nat):=[("bloom_octets",53),("number_octets",81),("octets_number",88),("head",95),("encoded_at",102),("encoded",109),("read_size",116),("read_head",123),("read_item",130),("decoded",137),("led",144),("word_octets",151),("octets_word",158),("read_number",165),("read_fixed",172),("log_item",198),("receipt_octets",203),("read_log",208),("read_bloom",215),("read_receipt",220),("need_form",288),("no_uncles",295),("header_octets",300),("header_hash",307),("read_root",314),("read_header",319),("withdrawal_octets",326),("_law_short",368),("_law_wide",375),("_law_homes",382),("_law_draw",391),("_law_pick",398),("_law_seeded",403),("_law_receipt",408),("_law_head",415),("_law_made_receipt",420),("_law_made_head",425),("_law_figures",432),("_law_laid",437),("_law_receipt_octets",442),("_law_head_octets",447),("_law_number",454),("_law_fixed",461),("_law_item",468),("_law_list",475),("_law_heard_receipt",480),("_law_heard_head",485),("_law_told_receipt",490),("_law_told_head",497),("_law_bent",504),("_law_is_receipt_right",511),("_law_is_head_right",518),("_law_are_refused",523),("_law_is_withdrawal_right",530),("law",535)]
noncomputable def fnName (f:Nat):String:=match fnTab[f]? with |some p=>p.1 |none => ""
noncomputable def fnAddr (f:Nat):Nat:=if f=70 then 347 else if f=71 then 354 else match fnTab[f]? with |some p=>p.2 |none=>0
noncomputable def clsName:Nat→String
 |0 => "MachineFault" |1 => "RlpFault" |2 => "Log" |3 => "Receipt" |4 => "BlockInfo" |5 => "Header" |6 => "Withdrawal" |7 => "Numbered" |_ => ""
noncomputable def initAddr:Nat→Nat
 |2=>67 |3=>186 |4=>234 |5=>255 |6=>276 |7=>340 |_=>0
noncomputable def gloTab:List (String×V):=[("DEEPEST",(.int 60)),("OCTETS_rlp",(.int 128)),("LIST",(.int 192)),("SHORT",(.int 55)),("WORD",(.int 115792089237316195423570985008687907853269984665640564039457584007913129639936)),("ADDRESSES",(.int 1461501637330902918203684832716283019655932542976)),("OCTETS_words",(.int 32)),("LONG",(.int 18446744073709551616)),("MOST_TOPICS",(.int 4)),("MOST_EXTRA",(.int 32)),("NO_NONCE",(.bytes [0,0,0,0,0,0,0,0])),("LEAST_ADDRESS",(.int 605153021707326989568713251046585937826284568576)),("SPREAD",(.int 281479271743489)),("_law_sizes",(.ref 383)),("_law_names",(.ref 384))]
noncomputable def gloV (x:String):Option V:=gloTab.lookup x
noncomputable def vEq (x y:V):Bool:=match x with
 |.int a=>(match y with |.int b=>a==b |_=>false)
 |.bytes a=>(match y with |.bytes b=>a==b |_=>false)
 |.ref a=>(match y with |.ref b=>a==b |_=>false)
 |_=>false
theorem vEq_of {a b:V}(h:vEq a b=true):a=b:=by
 cases a<;>first |(cases h;done) |(cases b<;>first |(cases h;done) |exact congrArg _ (eq_of_beq h))
noncomputable def GV (cx:Cx)(x:String)(w:Value):Prop:=cx.mg (Str.ofString x)=some w∨(cx.mg (Str.ofString x)=none∧cx.mb (Str.ofString x)=some w)
noncomputable def bltTab:List (String×Value):=[("len",.builtin "len"),("isinstance",.builtin "isinstance"),("list",.type "list"),("bytes",.type "bytes"),("bool",.type "bool"),("dict",.type "dict"),("range",.type "range"),("int",.type "int"),("enumerate",.type "enumerate")]
noncomputable def sEq (x:String)(s:PySem.Str):Bool:=decide (s=Str.ofString x)
theorem sEq_of {x s}(h:sEq x s=true):s=Str.ofString x:=of_decide_eq_true h
noncomputable def okId (s:PySem.Str):Bool:=!(s==("__debug__" : PySem.Str))
noncomputable def okL (k:SC)(i:Nat)(s:PySem.Str):Bool:=(match k.nm[i]? with |some x=>sEq x s |none=>false)&&okId s&&!(s==("__classdict__" : PySem.Str))
noncomputable def okG (k:SC)(x:String)(s:PySem.Str):Bool:=sEq x s&&okId s&&(k.names.lookup s==some .globalImplicit)
section
variable {α:Type}(e:PySem.Expr)
noncomputable def nameS:Option PySem.Str:=if h:e.ctorIdx=23 then Expr.Name.elim (motive_1:=fun ω=>Option PySem.Str) e h (fun s ω=>some s) else none
noncomputable def callN:Bool:=if h:e.ctorIdx=16 then Expr.Call.elim (motive_1:=fun ω=>Bool) e h (fun ω es ω ω=>!es.isEmpty) else false
noncomputable def keyS:Option PySem.Str:=if h:e.ctorIdx=19 then Expr.Constant.elim (motive_1:=fun ω=>Option PySem.Str) e h (fun c ω ω=>match c with |.str s=>some s |_=>none) else none
end
theorem nameS_ {e:PySem.Expr}{s:PySem.Str}:nameS e=some s→∃p,e=.Name s p:=fun q=>by
 unfold nameS at q
 by_cases h:e.ctorIdx=23
 ·rw [dif_pos h] at q
  exact Expr.Name.elim (motive_1:=fun e=>∀h:e.ctorIdx=23,Expr.Name.elim (motive_1:=fun ω=>Option PySem.Str) e h (fun s ω=>some s)=some s→∃p,e=.Name s p) e h (fun j p ω e=>⟨p,Option.some.inj e▸rfl⟩) h q
 ·rw [dif_neg h] at q;cases q
theorem keyS_ {e:PySem.Expr}{s:PySem.Str}:keyS e=some s→∃d p,e=.Constant (.str s) d p:=fun q=>by
 unfold keyS at q
 by_cases h:e.ctorIdx=19
 ·rw [dif_pos h] at q
  exact Expr.Constant.elim (motive_1:=fun e=>∀h:e.ctorIdx=19,Expr.Constant.elim (motive_1:=fun ω=>Option PySem.Str) e h (fun c ω ω=>match c with |.str s=>some s |_=>none)=some s→∃d p,e=.Constant (.str s) d p) e h (fun c d p ω e=>by
   cases c<;>first |(cases e;done) |exact ⟨d,p,Option.some.inj e▸rfl⟩) h q
 ·rw [dif_neg h] at q;cases q
noncomputable def okGE (k:SC)(x:String)(e:PySem.Expr):Bool:=match nameS e with |some s=>okG k x s |none=>false
theorem okGE_ {k:SC}{x:String}{e:PySem.Expr}(h:okGE k x e=true):∃p,e=.Name (Str.ofString x) p∧okId (Str.ofString x)=true∧(k.names.lookup (Str.ofString x)==some .globalImplicit)=true:=by
 unfold okGE at h
 cases z:nameS e with
 |none=>rw [z] at h;cases h
 |some s=>
  rw [z] at h
  have h:okG k x s=true:=h
  have q:=sEq_of (an1 (an1 h))
  rw [q] at z h
  exact (nameS_ z).elim fun p e=>⟨p,e,an2 (an1 h),an2 h⟩
noncomputable def okV (v:V)(c:Const):Bool:=match v with
 |.none=>(match c with |.none=>true |_=>false)
 |.bool a=>(match c with |.bool b=>a==b |_=>false)
 |.int a=>(match c with |.int b=>a==b |_=>false)
 |.bytes a=>(match c with |.bytes b=>a==b |_=>false)
 |.str a=>(match c with |.str b=>sEq a b |_=>false)
 |_=>false
noncomputable def isName (e:PySem.Expr):Bool:=Nat.beq e.ctorIdx 23
noncomputable def isSlice (e:PySem.Expr):Bool:=Nat.beq e.ctorIdx 26
noncomputable def plainT (e:PySem.Expr):Bool:=!(Nat.beq e.ctorIdx 0||Nat.beq e.ctorIdx 3||Nat.beq e.ctorIdx 5||Nat.beq e.ctorIdx 15)
noncomputable def objM (e:PySem.Expr):Bool:=Nat.beq e.ctorIdx 23||Nat.beq e.ctorIdx 2||Nat.beq e.ctorIdx 19||callN e
noncomputable def strV (v:V):Option String:=match v with
 |.str z=>some z
 |_=>none
theorem strV_ {v:V}{z:String}:strV v=some z→v=.str z:=by
 cases v with
 |str y=>exact fun e=>congrArg V.str (Option.some.inj e)
 |_=>exact fun e=>absurd e.symm (Option.some_ne_none z)
noncomputable def cstS (x:X):Option String:=match x with
 |.cst v=>strV v
 |_=>none
theorem cstS_ {x:X}{z:String}:cstS x=some z→x=.cst (.str z):=by
 cases x with
 |cst v=>exact fun e=>congrArg X.cst (strV_ e)
 |_=>exact fun e=>absurd e.symm (Option.some_ne_none z)
noncomputable def okKey (x:X)(e:Option PySem.Expr):Bool:=match cstS x with
 |some z=>(match e.bind keyS with |some s=>sEq z s |none=>false)
 |none=>false
noncomputable def okKeys:List X→List (Option PySem.Expr)→Bool
 | [],es=>es.isEmpty
 |x::r,es=>match es with | []=>false |e::es=>okKey x e&&okKeys r es
noncomputable def notMarks (op:CmpOp)(e:PySem.Expr):Bool:=!(behindInMarks op e)
noncomputable def reNames (names own:List (PySem.Str×NameKind)):List (PySem.Str×NameKind):=
 own.map fun (n,k)=>if (k==NameKind.free&&names.lookup n==some .cell) then (n,.cell) else (n,k)
noncomputable def okScope (names:List (PySem.Str×NameKind))(sc:Scope)(own caps:List String):Bool:=
 (sc.kind==.function)&&decide ((own++caps).Nodup)&&(sc.names.all fun x=>x.2 != .cell&&(x.2 != .local||(sc.names.lookup x.1==some .local)))
 && (own.all fun x=>sc.names.lookup (Str.ofString x)==some .local)
 && (caps.all fun x=>sc.names.lookup (Str.ofString x)==some .free&&(names.lookup (Str.ofString x)==some .cell||names.lookup (Str.ofString x)==some .free))
 && (sc.names.all fun x=>x.2 != .free||caps.any fun y=>sEq y x.1)
noncomputable def capsOK (k:SC)(nms:List String)(own:Nat)(caps:List Nat):Bool:=(nms.drop own).length==caps.length&&((nms.drop own).zip caps).all fun p=>match k.nm[p.2]? with |some x=>x==p.1 |none=>false
noncomputable def okTgC (tupled:Bool)(nms:List String):PySem.Expr→Bool
 |.Name s _=>!tupled&&(match nms with | [x]=>sEq x s |_=>false)
 |.Tuple es _ _=>tupled&&decide (es.length=nms.length)&&(es.zip nms).all fun p=>match p.1 with |.Name s _=>sEq p.2 s |_=>false
 |_=>false
noncomputable def isStar (e:PySem.Expr):Bool:=Nat.beq e.ctorIdx 22
noncomputable def okK (k:SC)(s:PySem.Str):Bool:=match k.names.lookup s with |some .local |some .cell |some .free=>true |_=>false
noncomputable abbrev inC (k:SC)(nms:List String)(sc:Scope):SC:=⟨nms,reNames k.names sc.names⟩
noncomputable abbrev Chk (p:Prop):=Option (PLift p)
noncomputable def need (b:Bool):Chk (b=true):=match b with |true=>some ⟨rfl⟩ |false=>none
noncomputable def needF (b:Bool):Chk (b=false):=match b with |true=>none |false=>some ⟨rfl⟩
noncomputable def needP (p:Prop)[Decidable p]:Chk p:=if h:p then some ⟨h⟩ else none
noncomputable def some? {α:Type}(o:Option α):Option {a:α // o=some a}:=match o with |some a=>some ⟨a,rfl⟩ |none=>none
noncomputable abbrev Chk.on {p q:Prop}(o:Chk p)(f:p→Chk q):Chk q:=o.bind fun h=>f h.down
noncomputable abbrev Chk.ok {p:Prop}(h:p):Chk p:=some ⟨h⟩
noncomputable def strIs {P:PySem.Str→Prop}(x:String)(s:PySem.Str)(f:Chk (P (Str.ofString x))):Chk (P s):=if h:s=Str.ofString x then h▸f else none
section
variable {P:PySem.Expr→Prop}(e:PySem.Expr)
noncomputable def onName (f:∀s p,Chk (P (.Name s p))):Chk (P e):=if h:e.ctorIdx=23 then Expr.Name.elim e h f else none
noncomputable def onCst (f:∀c d p,Chk (P (.Constant c d p))):Chk (P e):=if h:e.ctorIdx=19 then Expr.Constant.elim e h f else none
noncomputable def onBin (f:∀l o r p,Chk (P (.BinOp l o r p))):Chk (P e):=if h:e.ctorIdx=2 then Expr.BinOp.elim e h f else none
noncomputable def onUn (f:∀o x p,Chk (P (.UnaryOp o x p))):Chk (P e):=if h:e.ctorIdx=3 then Expr.UnaryOp.elim e h f else none
noncomputable def onCmp (f:∀l o r p,Chk (P (.Compare l o r p))):Chk (P e):=if h:e.ctorIdx=15 then Expr.Compare.elim e h f else none
noncomputable def onBool (f:∀o es p,Chk (P (.BoolOp o es p))):Chk (P e):=if h:e.ctorIdx=0 then Expr.BoolOp.elim e h f else none
noncomputable def onIf (f:∀t x y p,Chk (P (.IfExp t x y p))):Chk (P e):=if h:e.ctorIdx=5 then Expr.IfExp.elim e h f else none
noncomputable def onTup (f:∀es c p,Chk (P (.Tuple es c p))):Chk (P e):=if h:e.ctorIdx=25 then Expr.Tuple.elim e h f else none
noncomputable def onLst (f:∀es p,Chk (P (.List es p))):Chk (P e):=if h:e.ctorIdx=24 then Expr.List.elim e h f else none
noncomputable def onDct (f:∀ks vs p,Chk (P (.Dict ks vs p))):Chk (P e):=if h:e.ctorIdx=6 then Expr.Dict.elim e h f else none
noncomputable def onSub (f:∀v s p,Chk (P (.Subscript v s p))):Chk (P e):=if h:e.ctorIdx=21 then Expr.Subscript.elim e h f else none
noncomputable def onSlc (f:∀l u t p,Chk (P (.Slice l u t p))):Chk (P e):=if h:e.ctorIdx=26 then Expr.Slice.elim e h f else none
noncomputable def onAtt (f:∀v s p,Chk (P (.Attribute v s p))):Chk (P e):=if h:e.ctorIdx=20 then Expr.Attribute.elim e h f else none
noncomputable def onCall (f:∀c es p,Chk (P (.Call c es [] p))):Chk (P e):=if h:e.ctorIdx=16 then Expr.Call.elim e h fun c es ks p=>(match ks with | []=>f c es p |_::_=>none) else none
noncomputable def onComp (f:∀el gs sc p,Chk (P (.ListComp el gs sc p))):Chk (P e):=if h:e.ctorIdx=8 then Expr.ListComp.elim e h f else none
end
section
variable {α:Type}{P:List α→Prop}(l:List α)
noncomputable def on0 (f:Chk (P [])):Chk (P l):=match l with | []=>f |_::_=>none
noncomputable def onC (f:∀a r,Chk (P (a::r))):Chk (P l):=match l with | []=>none |a::r=>f a r
end
end Internal
end
section
open PySem PySem.W PySem.Calls PyProof.Rows
set_option maxRecDepth 100000
namespace Internal
noncomputable def LV (ov:Option Value)(a:V):Prop:=a=.unb∨∃v,ov=some v∧VR v a
theorem LV.get {ov a}(h:LV ov a)(n:a≠.unb):∃v,ov=some v∧VR v a:=h.resolve_left n
structure Loc (env:Env)(nm:List String)(μ:List V)(m:PySem.Str→Option Value)(ca:List (Addr×Obj)):Prop where
 len:μ.length=nm.length
 nd:nm.Nodup
 at_:∀(i:Nat) x a,nm[i]? = some x→μ[i]? = some a→(env.kindOf (Str.ofString x)=some .local∧LV (m (Str.ofString x)) a)∨
  ((env.kindOf (Str.ofString x)=some .cell∨env.kindOf (Str.ofString x)=some .free)∧∃c o ov,env.cells.lookup (Str.ofString x)=some c∧(c,o)∈ca∧o.data=.cell ov∧LV ov a)
structure At (k:SC)(A:Around)(n:Nat)(env:Env)(envs:List Env)(F:List Ns1)(aux:List (Addr×Obj))(m:PySem.Str→Option Value)(ca:List (Addr×Obj))(μ:List V):Prop where
 names:env.scope.names=k.names
 kind:env.scope.kind=.function
 glob:env.globals=mainGlobals
 blt:env.builtins=builtinsNs
 frm:∃env' outer L,envs=env'::outer∧env'.frame=some L∧env.frame=some L
 stk:A.frames=some envs
 eo:EnvsOK envs F
 ao:AOK A n
 top:∃F0,F=(env.locals,m)::F0
 cas:∀q∈ca,q∈aux
 loc:Loc env k.nm μ m ca
structure Good3 (cx:Cx):Prop extends Good2 cx where
 glo:∀x v,gloV x=some v→∃w,GV cx x w∧VR w v
 blt:∀x w,(x,w)∈bltTab→GV cx x w
 fnG:∀f,f<55→GV cx (fnName f) (.ref (fnAddr f))∧keepIn cx.K (.ref (fnAddr f))=true
 clsG:∀c,2≤c∧c≤7→GV cx (clsName c) (.ref (clsAddr c))∧keepIn cx.K (.ref (clsAddr c))=true∧makesIn cx.K (clsAddr c)=true∧
  findIn cx.K (.ref (clsAddr c)) "__init__" = some (some (.ref (initAddr c)))∧typeIn cx.K (.ref (initAddr c))=some (.type "function")
 mthG:∀n f,methFn 357 n=some f→plainGet cx.K 357 (Str.ofString n)=true∧findIn cx.K (.ref 357) (Str.ofString n)=some (some (.ref (fnAddr f)))∧isFn cx.K (.ref (fnAddr f))=true∧keepIn cx.K (.ref (fnAddr f))=true
 fromB:findCls cx.K (.type "int") (.type "type") (PySem.Str.ofString "from_bytes")=some (.get (.builtin "classmethod_descriptor.__get__") (.builtin "int.from_bytes") .none (.type "int"))
inductive PVs (cx:Cx)(F:List Ns1)(aux:List (Addr×Obj))(s:Shared)(Q:List V→Sto→Prop)(vs:List Value)(s':Shared):Prop
 |mk (as:List V) (σ':Sto):SS s s'→VRs vs as→Inv cx F aux σ' s'.heap→Q as σ'→PVs cx F aux s Q vs s'
inductive PBt (cx:Cx)(F:List Ns1)(aux:List (Addr×Obj))(s:Shared)(Q:Bool→Sto→Prop)(b:Bool)(s':Shared):Prop
 |mk (σ':Sto):SS s s'→Inv cx F aux σ' s'.heap→Q b σ'→PBt cx F aux s Q b s'
section
variable (cx:Cx)(ch:Ch)(N:Nat)
noncomputable def SndX (k:SC)(x:X)(e:PySem.Expr):Prop:=∀{A env envs F aux m ca μ σ s g Q E},At k A N env envs F aux m ca μ→SS g s→Inv cx F aux σ s.heap→wpX ch x μ σ Q E→
 wpAny cx.M A (eval e env) (PV cx F aux g Q) (PEx cx F aux envs g true E) s
noncomputable def SndT (k:SC)(t:T)(e:PySem.Expr):Prop:=∀{A env envs F aux m ca μ σ s g Q E},At k A N env envs F aux m ca μ→SS g s→Inv cx F aux σ s.heap→wpT ch t μ σ Q E→
 wpAny cx.M A (isTrue e env (eval e env)) (PBt cx F aux g Q) (PEx cx F aux envs g true E) s
inductive SndXs (k:SC):List X→List PySem.Expr→Prop
 |nil:SndXs k [] []
 |cons {x r e es}:isStar e=false→SndX cx ch N k x e→SndXs k r es→SndXs k (x::r) (e::es)
end
section
variable {cx:Cx}{ch:Ch}{N:Nat}{k:SC}{e:PySem.Expr}{A:Around}{n:Nat}{env:Env}{envs:List Env}{F:List Ns1}{aux ca:List (Addr×Obj)}{m:PySem.Str→Option Value}{μ:List V}{σ:Sto}{s g:Shared}{Q:PX}{E:PE}
theorem name_G {M:Model}{x:String}{w:Value}{pos:Pos}{Q:Value→Shared→Prop}{E:Value→Shared→Prop}(G:Good cx)(gv:GV cx x w)(st:cx.base.StaysIn s.heap)(hk:env.scope.kind=.function)(hg:env.globals=mainGlobals)
  (hb:env.builtins=builtinsNs)(hx:env.kindOf (Str.ofString x)=some .globalImplicit)(hd:(Str.ofString x==("__debug__" : PySem.Str))=false)(h:Q w s):wpAny M A (eval (.Name (Str.ofString x) pos) env) Q E s:=by
 rcases gv with e |⟨e1,e2⟩
 ·exact Name_function_global hk hx (loadGlobal_global (env:=env) (by rw [hg];exact G.T.g.keeps st) e h) hd
 ·exact Name_function_global hk hx (loadGlobal_builtin (env:=env) (by rw [hg];exact G.T.g.keeps st) e1 (by rw [hb];exact G.T.b.keeps st) e2 h) hd
theorem okId_of {x:PySem.Str}(h:okId x=true):(x==("__debug__" : PySem.Str))=false:=by unfold okId at h;simpa using h
theorem name_T {M:Model}{x:String}{w:Value}{Q:Value→Shared→Prop}{E:Value→Shared→Prop}(G:Good cx)(gv:GV cx x w)(ok:okGE k x e=true)(T:At k A n env envs F aux m ca μ)(I:Inv cx F aux σ s.heap)(h:Q w s):wpAny M A (eval e env) Q E s:=
 (okGE_ ok).elim fun p z=>by
  rw [z.1]
  exact name_G G gv I.stays T.kind T.glob T.blt (by unfold Env.kindOf;rw [T.names];exact eq_of_beq z.2.2) (okId_of z.2.1) h
theorem okL_of {i:Nat}{z:PySem.Str}(ok:okL k i z=true):∃x,k.nm[i]? = some x∧z=Str.ofString x:=by
 unfold okL at ok
 cases h:k.nm[i]? with
 |none=>rw [h] at ok;cases ok
 |some x=>rw [h] at ok;exact ⟨x,rfl,sEq_of (an1 (an1 ok))⟩
theorem snd_loc {i:Nat}{x:PySem.Str}{pos:Pos}(ok:okL k i x=true):SndX cx ch N k (.loc i) (.Name x pos):=by
 intro A env envs F aux m ca μ σ s g Q E T ss I q
 refine (okL_of ok).elim fun y z=>?_
 have o2:=an2 (an1 ok)
 have o3:=(Bool.not_eq_true' _).mp (an2 ok)
 rw [z.2] at o2 o3⊢
 refine q.elim fun v q=>T.top.elim fun F0 tp=>(T.loc.at_ i y v z.1 q.1).elim (fun l=>(l.2.get q.2.1).elim fun w r=>?_) fun l=>l.2.elim fun c l'=>l'.elim fun o l'=>l'.elim fun ov l'=>(l'.2.2.2.get q.2.1).elim fun w r=>?_
 ·subst tp
  exact wpAny_Name (wpAny_loadName_local T.kind l.1 (I.ns (env.locals,m) (.head _)).1 r.1 ⟨v,σ,ss,r.2,I,q.2.2⟩) (okId_of o2)
 ·have hcell:s.heap.IsCell c (some w):=⟨o,(I.auxs _ (T.cas _ l'.2.1)).1,r.1▸l'.2.2.1⟩
  exact l.1.elim (fun hk=>wpAny_Name (wpAny_loadName_cell T.kind hk l'.1 hcell ⟨v,σ,ss,r.2,I,q.2.2⟩) (okId_of o2)) fun hk=>wpAny_Name (wpAny_loadName_free T.kind hk l'.1 hcell ⟨v,σ,ss,r.2,I,q.2.2⟩ o3) (okId_of o2)
theorem snd_glo (G:Good3 cx){x:String}{v u:V}{e:PySem.Expr}(hu:gloV x=some u)(h1:vEq u v=true)(h2:okGE k x e=true):SndX cx ch N k (.glo x v) e:=by
 intro A env envs F aux m ca μ σ s g Q E T ss I q
 have:=vEq_of h1
 subst this
 obtain ⟨w,gv,r⟩:=G.glo _ _ hu
 exact name_T G.toGood gv h2 T I ⟨u,σ,ss,r,I,q⟩
theorem ss_tok {k:Nat}(ss:SS g s):SS g {s with toks:=k}:=ss.trans ⟨rfl,rfl,rfl⟩
theorem okV_ {P:V→Const→Prop}{v:V}{c:Const}(h:okV v c=true)(n:P .none .none)(bo:∀a,P (.bool a) (.bool a))(i:∀a,P (.int a) (.int a))(bs:∀a,P (.bytes a) (.bytes a))(st:∀a b,sEq a b=true→P (.str a) (.str b)):P v c:=by
 cases v with
 |none=>cases c with
  |none=>exact n
  |_=>exact absurd h Bool.false_ne_true
 |bool a=>cases c with
  |bool b=>exact eq_of_beq h▸bo a
  |_=>exact absurd h Bool.false_ne_true
 |int a=>cases c with
  |int b=>exact eq_of_beq h▸i a
  |_=>exact absurd h Bool.false_ne_true
 |bytes a=>cases c with
  |bytes b=>exact eq_of_beq h▸bs a
  |_=>exact absurd h Bool.false_ne_true
 |str a=>cases c with
  |str b=>exact st a b h
  |_=>exact absurd h Bool.false_ne_true
 |_=>exact absurd h Bool.false_ne_true
theorem snd_cst {v:V}{c:Const}{d:Nat}{pos:Pos}(ok:okV v c=true):SndX cx ch N k (.cst v) (.Constant c d pos):=fun {A env envs F aux m ca μ σ s g Q E} _ ss I q=>
 okV_ (P:=fun v c=>Q v σ→wpAny cx.M A (eval (.Constant c d pos) env) (PV cx F aux g Q) (PEx cx F aux envs g true E) s) ok (fun q=>PyProof.Rows.Constant_none ⟨_,σ,ss,.none,I,q⟩) (fun ω q=>PyProof.Rows.Constant_bool ⟨_,σ,ss,.bool _,I,q⟩)
  (fun ω q=>wpAny_Constant_int ⟨_,σ,ss_tok ss,.int _ _,I,q⟩) (fun ω q=>PySem.W.Constant_bytes ⟨_,σ,ss_tok ss,VR.bytesL _ _,I,q⟩) (fun ω ω e q=>sEq_of e▸Calls.Constant_str ⟨_,σ,ss_tok ss,.str _ _,I,q⟩) q
theorem wpE {α:Type}{M:Model}{t:Sem α}{P P':α→Shared→Prop}{E:Value→Shared→Prop}(h:wpAny M A t P E s)(k:∀a s,P a s→P' a s):wpAny M A t P' E s:=wpAny_mono h k fun ω ω x=>x
theorem wpV {M:Model}{t:Sem Value}{P':Value→Shared→Prop}{E:Value→Shared→Prop}(h:wpAny M A t (PV cx F aux g Q) E s)(k:∀v s₁ a σ₁,SS g s₁→VR v a→Inv cx F aux σ₁ s₁.heap→Q a σ₁→P' v s₁):wpAny M A t P' E s:=
 wpAny_mono h (fun v s₁ p=>p.casesOn (motive:=fun ω=>P' v s₁) fun a σ₁ b c d e=>k v s₁ a σ₁ b c d e) fun ω ω x=>x
theorem snd_bin {a b:X}{op:BOp}{l r:PySem.Expr}{pos:Pos}(ha:SndX cx ch N k a l)(hb:SndX cx ch N k b r):SndX cx ch N k (.bin op a b) (.BinOp l (opOf op) r pos):=fun T ss I q=>
 wpAny_BinOp (wpV (ha T ss I q) fun ω ω ω ω ss₁ ra I₁ q₁=>wpV (hb T ss₁ I₁ q₁) fun ω ω ω ω ss₂ rb I₂ q₂=>by
  exact T.top.elim fun F0 tp=>by subst tp;exact wpE (bin_ok I₂ ra rb op q₂) fun v s₃ p=>p.from ss₂)
theorem snd_neg {a:X}{x:PySem.Expr}{pos:Pos}(ha:SndX cx ch N k a x):SndX cx ch N k (.neg a) (.UnaryOp .USub x pos):=fun T ss I q=>
 PyProof.Rows.UnaryOp_ (wpV (ha T ss I q) fun va s₁ a σ₁ ss₁ ra I₁ q=>by
  exact vI_ ra q fun i t q=>PyProof.Rows.neg_int ⟨_,σ₁,ss_tok ss₁,.int _ _,I₁,q⟩)
theorem snd_cmp {a b:X}{op:COp}{l r:PySem.Expr}{pos:Pos}(G:Good3 cx)(o0:notMarks (copOf op) r=true)(ha:SndX cx ch N k a l)(hb:SndX cx ch N k b r):SndX cx ch N k (.cmp a op b) (.Compare l [copOf op] [r] pos):=fun T ss I q=>
 wpAny_Compare1 (wpV (ha T ss I q) fun ω ω ω ω ss₁ ra I₁ q₁=>wpV (hb T ss₁ I₁ q₁) fun ω ω ω σ₂ ss₂ rb I₂ q₂=>wpE (cmp_ok G.toGood I₂ T.ao ra rb op q₂) fun v s₃ p=>by
  cases p with |mk c tk e e' q₃=>exact e▸e'▸⟨_,σ₂,ss_tok ss₂,.bool _,I₂,q₃⟩) (by rw [notMarks,Bool.not_eq_true'] at o0;exact o0)
theorem snd_andv {a b:X}{x y:PySem.Expr}{pos:Pos}(ha:SndX cx ch N k a x)(hb:SndX cx ch N k b y):SndX cx ch N k (.andv a b) (.BoolOp .And [x,y] pos):=fun T ss I q=>
 PyProof.Rows.BoolOp_and (wpV (ha T ss I q) fun va s₁ a σ₁ ss₁ ra I₁ q=>by
  exact vT_ ra q fun c q=>wpAny_truthy_bool (match c,q with
   |false,q=>⟨_,σ₁,ss₁,.bool _,I₁,q⟩
   |true,q=>PyProof.Rows.BoolOp_one (hb T ss₁ I₁ q)))
theorem wpB {M:Model}{t:Sem Bool}{P':Bool→Shared→Prop}{E:Value→Shared→Prop}{Q:Bool→Sto→Prop}(h:wpAny M A t (PBt cx F aux g Q) E s)(k:∀v s₁ σ₁,SS g s₁→Inv cx F aux σ₁ s₁.heap→Q v σ₁→P' v s₁):wpAny M A t P' E s:=
 wpAny_mono h (fun v s₁ p=>p.casesOn (motive:=fun ω=>P' v s₁) fun σ₁ b c d=>k v s₁ σ₁ b c d) fun ω ω x=>x
theorem snd_ite {c:T}{a b:X}{t x y:PySem.Expr}{pos:Pos}(hc:SndT cx ch N k c t)(ha:SndX cx ch N k a x)(hb:SndX cx ch N k b y):SndX cx ch N k (.ite c a b) (.IfExp t x y pos):=fun T ss I q=>
 PyProof.Rows.IfExp_ (wpB (hc T ss I q) fun c ω ω ss₁ I₁ q=>match c,q with
  |true,q=>ha T ss₁ I₁ q
  |false,q=>hb T ss₁ I₁ q)
theorem star_one {v:PySem.Expr}(es:List PySem.Expr)(h:isStar v=false):starEach (v::es) env=(false,eval v env)::starEach es env:=by
 cases v<;>first |rfl |cases h
theorem snd_xs {xs:List X}{es:List PySem.Expr}(h:SndXs cx ch N k xs es):∀{pos:Pos} {Q:List V→Sto→Prop} {σ:Sto} {s:Shared},At k A N env envs F aux m ca μ→SS g s→Inv cx F aux σ s.heap→wpXs ch xs μ σ Q E→
  wpAny cx.M A (spliced (backTo pos (starEach es env))) (PVs cx F aux g fun as σ'=>as.length=xs.length∧Q as σ') (PEx cx F aux envs g true E) s:=by
 induction h with
 |nil=>exact fun T ss I q=>spliced_nil ⟨[],_,ss,.nil,I,rfl,q⟩
 | @cons x r e es hs hx _ ih=>
  intro pos Q σ s T ss I q
  rw [star_one es hs]
  show wpAny _ _ (spliced ((false,eval e env)::backTo pos (starEach es env))) _ _ s
  refine spliced_cons (wpV (hx T ss I q) fun ω ω a ω ss₁ ra I₁ q₁=>wpE (ih T ss₁ I₁ q₁) fun vs s₂ p=>?_)
  obtain ⟨as,σ₂,ss₂,rs,I₂,hl,q₂⟩:=p
  exact ⟨a::as,σ₂,ss₂,.cons ra rs,I₂,by simp [hl],q₂⟩
theorem plain_xs {xs:List X}{es:List PySem.Expr}(h:SndXs cx ch N k xs es){pos:Pos}:(backTo pos (starEach es env)).any (·.1)=false:=by
 induction h with
 |nil=>rfl
 | @cons x r e es hs _ _ ih=>
  rw [star_one es hs]
  show (false||(backTo pos (starEach es env)).any (·.1))=false
  rw [ih];rfl
theorem SndXs.len {xs:List X}{es:List PySem.Expr}(h:SndXs cx ch N k xs es):xs.length=es.length:=by
 induction h with
 |nil=>rfl
 |cons _ _ _ ih=>exact congrArg (· + 1) ih
end
end Internal
end
section
open PySem PySem.W PySem.Calls PyProof.Rows
set_option maxRecDepth 100000
namespace Internal
section
variable {cx:Cx}{ch:Ch}{N:Nat}{k:SC}{e:PySem.Expr}{A:Around}{n:Nat}{env:Env}{envs:List Env}{F:List Ns1}{aux aux' ca:List (Addr×Obj)}{m:PySem.Str→Option Value}{μ:List V}{σ:Sto}{s g:Shared}{Q:PX}{E:PE}
theorem At.aux_ (T:At k A n env envs F aux m ca μ)(h:∀q∈aux,q∈aux'):At k A n env envs F aux' m ca μ:=⟨T.names,T.kind,T.glob,T.blt,T.frm,T.stk,T.eo,T.ao,T.top,fun q hq=>h q (T.cas q hq),T.loc⟩
theorem At.ne (T:At k A n env envs F aux m ca μ):F≠[]:=by obtain ⟨F0,rfl⟩:=T.top;simp
theorem wpVs {M:Model}{t:Sem (List Value)}{P':List Value→Shared→Prop}{E:Value→Shared→Prop}{Q:List V→Sto→Prop}(h:wpAny M A t (PVs cx F aux g Q) E s)(k:∀v s₁ a σ₁,SS g s₁→VRs v a→Inv cx F aux σ₁ s₁.heap→Q a σ₁→P' v s₁):wpAny M A t P' E s:=
 wpAny_mono h (fun v s₁ p=>p.casesOn (motive:=fun ω=>P' v s₁) fun a σ₁ b c d e=>k v s₁ a σ₁ b c d e) fun ω ω x=>x
theorem snd_tup {xs:List X}{es:List PySem.Expr}{c:Nat}{pos:Pos}(o:xs.length≤1000)(h:SndXs cx ch N k xs es):SndX cx ch N k (.tup xs) (.Tuple es c pos):=fun T ss I q=>
 PyProof.Rows.Tuple_ (wpVs (snd_xs h T ss I q) fun ω ω ω ω ss₁ rs I₁ q₁=>wpE (tup_new I₁ rs q₁.2 (by rw [rs.length,q₁.1,sizeLine_eq];lia)) fun v s₂ p=>p.from ss₁)
theorem snd_lst {b:Bool}{xs:List X}{es:List PySem.Expr}{pos:Pos}(o:xs.length≤1000)(h:SndXs cx ch N k xs es):SndX cx ch N k (.lst b xs) (.List es pos):=fun T ss I q=>
 PyProof.Rows.List_ (wpVs (snd_xs h T ss I q) fun ω ω ω ω ss₁ rs I₁ q₁=>wpE (list_new I₁ rs q₁.2 (by rw [rs.length,q₁.1,sizeLine_eq];lia)) fun v s₂ p=>p.from ss₁)
noncomputable def strsOf:List X→List V
 | []=>[]
 |x::r=>match cstS x with |some z=>.str z::strsOf r |none=>[]
theorem okKey_ {x:X}{e:Option PySem.Expr}(ok:okKey x e=true):∃z kd p,x=.cst (.str z)∧e=some (.Constant (.str (Str.ofString z)) kd p):=by
 unfold okKey at ok
 cases h:cstS x with
 |none=>rw [h] at ok;cases ok
 |some z=>
  cases e with
  |none=>rw [h] at ok;cases ok
  |some e=>
   cases h':keyS e with
   |none=>rw [h] at ok;have ok:(match keyS e with |some s=>sEq z s |none=>false)=true:=ok;rw [h'] at ok;cases ok
   |some s=>
    rw [h] at ok
    have ok:(match keyS e with |some s=>sEq z s |none=>false)=true:=ok
    rw [h'] at ok
    exact (keyS_ h').elim fun d q=>q.elim fun p q=>⟨z,d,p,cstS_ h,by rw [q,sEq_of ok]⟩
theorem keys_inv {x:X}{r:List X}{keys:List (Option PySem.Expr)}(ok:okKeys (x::r) keys=true):∃z kd p es,x=.cst (.str z)∧keys=some (.Constant (.str (Str.ofString z)) kd p)::es∧okKeys r es=true:=by
 cases keys with
 |nil=>cases ok
 |cons e es=>exact (okKey_ (an1 ok)).elim fun z q=>q.elim fun d q=>q.elim fun p q=>⟨z,d,p,es,q.1,by rw [q.2],an2 ok⟩
theorem keys_wp {ks:List X}:∀{keys:List (Option PySem.Expr)} {Q:List V→Sto→Prop},okKeys ks keys=true→wpXs ch ks μ σ Q E→Q (strsOf ks) σ:=by
 induction ks with
 |nil=>intro keys Q ok h;exact h
 |cons x r ih=>
  intro keys Q ok h
  refine (keys_inv ok).elim fun z q=>q.elim fun d q=>q.elim fun p q=>q.elim fun es q=>?_
  rw [q.1] at h⊢
  exact ih (Q:=fun vs σ=>Q (.str z::vs) σ) q.2.2 h
theorem keys_all {ks:List X}:∀{keys:List (Option PySem.Expr)},okKeys ks keys=true→keys.all (·.isSome)=true∧keys.length=ks.length:=by
 induction ks with
 |nil=>intro keys ok;cases keys with
  |nil=>exact ⟨rfl,rfl⟩
  |cons=>cases ok
 |cons x r ih=>
  intro keys ok
  refine (keys_inv ok).elim fun z q=>q.elim fun d q=>q.elim fun p q=>q.elim fun es q=>?_
  rw [q.2.1]
  exact ⟨(ih q.2.2).1,congrArg Nat.succ (ih q.2.2).2⟩
inductive PKv (cx:Cx)(F:List Ns1)(aux:List (Addr×Obj))(g:Shared)(ks:List X)(Q:List V→Sto→Prop)(pvs:List (Value×Value))(s':Shared):Prop
 |mk (kvs:List (PySem.Str×Value)) (ww:List V) (σ':Sto):Carries (PySem.strKind cx.prog cx.w) pvs kvs→KVs kvs ((strsOf ks).zip ww)→SS g s'→Inv cx F aux σ' s'.heap→kvs.length=ks.length→Q ww σ'→PKv cx F aux g ks Q pvs s'
theorem pairs_snd {ks:List X}{pos:Pos}:∀{keys:List (Option PySem.Expr)} {vs:List X} {vals:List PySem.Expr} {Q:List V→Sto→Prop} {σ:Sto} {s:Shared},SndXs cx ch N k vs vals→okKeys ks keys=true→ks.length=vs.length→
  At k A N env envs F aux m ca μ→SS g s→Inv cx F aux σ s.heap→wpXs ch vs μ σ Q E→
  wpAny cx.M A (evalPairs (pairTrees keys vals env pos)) (PKv cx F aux g ks Q) (PEx cx F aux envs g true E) s:=by
 induction ks with
 |nil=>
  intro keys vs vals Q σ s h ok hl T ss I q
  cases keys with
  |cons=>exact absurd ok Bool.false_ne_true
  |nil=>
   cases h with
   |cons=>exact absurd hl.symm (Nat.succ_ne_zero _)
   |nil=>exact pairTrees_nil_walk ⟨[],[],σ,trivial,.nil,ss,I,rfl,q⟩
 |cons x r ih=>
  intro keys vs vals Q σ s h ok hl T ss I q
  refine (keys_inv ok).elim fun z e=>e.elim fun kd e=>e.elim fun p' e=>e.elim fun es e=>?_
  rw [e.1,e.2.1]
  cases h with
  |nil=>exact absurd hl (Nat.succ_ne_zero _)
  |cons _ hv hr=>
   refine pairTrees_cons_walk (Calls.Constant_str ?_)
   refine wpV (hv T (ss_tok ss) I q) fun va s₁ a σ₁ ss₁ ra I₁ q₁=>wpE (ih hr e.2.2 (Nat.succ.inj hl) T ss₁ I₁ q₁) fun pvs s₂ p=>?_
   cases p with |mk kvs ww σ₂ c kr ss₂ I₂ hk q₂=>
   exact ⟨(Str.ofString z,va)::kvs,a::ww,σ₂,⟨strKind_is _ _ _ _,rfl,c⟩,.cons ra kr,ss₂,I₂,congrArg (· + 1) hk,q₂⟩
theorem KVs.cut {kk kv}(k:KVs kk kv):∀{acc a},KVs acc a→kfresh a kv=true→KVs (merged acc kk) (a++kv):=by
 induction k with
 |nil=>intro acc a h _;rw [List.append_nil];exact h
 | @cons x v b r s hv hr ih=>
  intro acc a h f
  have f1:=(Bool.not_eq_true' _).mp (an1 f)
  have e:PySem.stored acc (Str.ofString x) v=acc++[(Str.ofString x,v)]:=by
   unfold PySem.stored
   rw [h.any koS,f1];rfl
  have:=ih (h.snoc hv) (an2 f)
  rw [List.append_assoc,←e] at this
  exact this
theorem snd_dct {b:Bool}{ks vs:List X}{keys:List (Option PySem.Expr)}{vals:List PySem.Expr}{pos:Pos}(o1:ks.length=vs.length)(o2:ks.length≤15)(o3:okKeys ks keys=true)(o4:SndXs cx ch N k vs vals):SndX cx ch N k (.dct b ks vs) (.Dict keys vals pos):=by
 intro A env envs F aux m ca μ σ s g Q E T ss I q
 have q:=keys_wp o3 q
 have ka:=keys_all o3
 by_cases h0:keys=[]
 ·subst h0
  cases ks with
  |cons=>cases ka.2
  |nil=>
   cases o4 with
   |cons=>cases o1
   |nil=>exact PySem.wpAny_Dict_empty (pv_new I (ss.trans ⟨rfl,rfl,rfl⟩) (keep_push _) (OR_0 (Heap.DictOf.new _) (Heap.DictOf.new _)) q.2.2)
 ·have I₀:Inv cx F ((s.heap.objs.size,{cls:=.type "dict",data:=.dict #[]})::aux) σ (s.heap.push {cls:=.type "dict",data:=.dict #[]}):=(I.keep (keep_push _)).aux_new I (Heap.get?_push_size _ rfl) (Nat.le_refl _)
  refine wpAny_Dict_walk (knd:=PySem.strKind cx.prog cx.w) ka.1 (by rw [ka.2,o1];exact o4.len) h0 (by rw [ka.2];exact Nat.le_trans o2 (by decide)) ?_
  refine wpAny_mono (pairs_snd o4 o3 o1 (T.aux_ fun q hq=>.tail _ hq) (ss.trans ⟨rfl,rfl,rfl⟩) I₀ q) (fun pvs s₁ p=>?_) fun v s' p=>p.sub T.ne (List.Sublist.refl _) fun q hq=>.tail _ hq
  cases p with
  |mk kvs ww σ₁ c kr ss₁ I₁ hk q=>
  have hD:=(I₁.auxs _ (.head _)).1
  have hDn:s₁.heap.DictOf (PySem.strKind cx.prog cx.w) s.heap.objs.size []:=dictOf_at (Heap.DictOf.new (knd:=PySem.strKind cx.prog cx.w) s.heap) fun o e=>by
   rw [Heap.get?_push_size _ rfl] at e;exact Option.some.inj e▸hD
  refine ⟨kvs,c,hDn,fun h' hd' sb=>?_⟩
  have nσ:=I₁.free (.head _) rfl
  have ne:(strsOf ks).zip ww≠[]:=fun z=>h0 (List.length_eq_zero_iff.mp (ka.2.trans (hk.symm.trans (kr.length.trans (congrArg List.length z)))))
  exact ⟨_,_,ss₁.trans ⟨rfl,rfl,rfl⟩,.ref _,I₁.hand rfl (I.notAux (Nat.le_refl _)) (fun b ob n e=>sb.extBut b ob n e) (OR_S hd' (KVs.cut kr .nil q.2.1) ne),q.2.2 _ _ nσ (put_ext nσ) (put_self ..)⟩
end
end Internal
end
section
open PySem PySem.W PySem.Calls PyProof.Rows
set_option maxRecDepth 100000
namespace Internal
theorem evalPart_eq (e:Option PySem.Expr)(env:Env):valueOrNone (evalOpt e env)=evalPart e env:=by cases e<;>rfl
section
variable {cx:Cx}{ch:Ch}{N:Nat}{k:SC}{e:PySem.Expr}{A:Around}{n:Nat}{env:Env}{envs:List Env}{F:List Ns1}{aux aux' ca:List (Addr×Obj)}{m:PySem.Str→Option Value}{μ:List V}{σ:Sto}{s g:Shared}{Q:PX}{E:PE}
theorem snd_sub {a i:X}{v sl:PySem.Expr}{pos:Pos}(ha:SndX cx ch N k a v)(hi:SndX cx ch N k i sl):SndX cx ch N k (.sub a i) (.Subscript v sl pos):=fun T ss I q=>
 PyProof.Rows.Subscript_ (wpV (ha T ss I q) fun ω ω ω ω ss₁ ra I₁ q₁=>wpV (hi T ss₁ I₁ q₁) fun ω ω ω ω ss₂ rb I₂ q₂=>wpE (sub_ok I₂ ra rb q₂) fun v s₃ p=>p.from ss₂)
theorem snd_slc0 {a:X}{v:PySem.Expr}{p1 p2:Pos}(ha:SndX cx ch N k a v):SndX cx ch N k (.slc a false false []) (.Subscript v (.Slice none none none p1) p2):=fun T ss I q=>
 PyProof.Rows.Subscript_ (wpV (ha T ss I q) fun ω ω ω ω ss₁ ra I₁ q₁=>PySem.wpAny_Slice (evalPart_none_step (evalPart_none_step (evalPart_none_step (wpE (slc_ok I₁ ra .none .none q₁) fun v s₃ p=>p.from ss₁)))))
theorem snd_slcH {a y:X}{v u:PySem.Expr}{p1 p2:Pos}(ha:SndX cx ch N k a v)(h:SndX cx ch N k y u):SndX cx ch N k (.slc a false true [y]) (.Subscript v (.Slice none (some u) none p1) p2):=fun T ss I q=>
 PyProof.Rows.Subscript_ (wpV (ha T ss I q) fun ω ω ω ω ss₁ ra I₁ q₁=>PySem.wpAny_Slice (evalPart_none_step (evalPart_some_step (wpV (h T ss₁ I₁ q₁) fun ω ω b ω ss₂ rb I₂ q₂=>vI_ rb q₂ fun i t q₂=>
  evalPart_none_step (wpE (slc_ok I₂ ra .none (.int _ _) q₂) fun v s₃ p=>p.from ss₂)))))
theorem snd_slcL {a y:X}{v l:PySem.Expr}{p1 p2:Pos}(ha:SndX cx ch N k a v)(h:SndX cx ch N k y l):SndX cx ch N k (.slc a true false [y]) (.Subscript v (.Slice (some l) none none p1) p2):=fun T ss I q=>
 PyProof.Rows.Subscript_ (wpV (ha T ss I q) fun ω ω ω ω ss₁ ra I₁ q₁=>PySem.wpAny_Slice (evalPart_some_step (wpV (h T ss₁ I₁ q₁) fun ω ω b ω ss₂ rb I₂ q₂=>vI_ rb q₂ fun i t q₂=>
  evalPart_none_step (evalPart_none_step (wpE (slc_ok I₂ ra (.int _ _) .none q₂) fun v s₃ p=>p.from ss₂)))))
theorem snd_slcB {a y z:X}{v l u:PySem.Expr}{p1 p2:Pos}(ha:SndX cx ch N k a v)(h:SndX cx ch N k y l)(h2:SndX cx ch N k z u):SndX cx ch N k (.slc a true true [y,z]) (.Subscript v (.Slice (some l) (some u) none p1) p2):=fun T ss I q=>
 PyProof.Rows.Subscript_ (wpV (ha T ss I q) fun ω ω ω ω ss₁ ra I₁ q₁=>PySem.wpAny_Slice (evalPart_some_step (wpV (h T ss₁ I₁ q₁) fun ω ω b ω ss₂ rb I₂ q₂=>evalPart_some_step (wpV (h2 T ss₂ I₂ q₂) fun ω ω c ω ss₃ rc I₃ q₃=>
  vI_ rb q₃ fun i t q₃=>vI_ rc q₃ fun j t q₃=>evalPart_none_step (wpE (slc_ok I₃ ra (.int _ _) (.int _ _) q₃) fun v s₄ p=>p.from ss₃)))))
theorem snd_rev {a:X}{v:PySem.Expr}{d:Nat}{p1 p2 p3 p4:Pos}(ha:SndX cx ch N k a v):SndX cx ch N k (.rev a) (.Subscript v (.Slice none none (some (.UnaryOp .USub (.Constant (.int 1) d p1) p2)) p3) p4):=fun T ss I q=>
 PyProof.Rows.Subscript_ (wpV (ha T ss I q) fun ω s₁ ω ω ss₁ ra I₁ q=>vR_ ra q fun b q=>q.elim fun m' q=>q.elim fun vs q=>
  PySem.wpAny_Slice (evalPart_none_step (evalPart_none_step (evalPart_some_step (PyProof.Rows.UnaryOp_ (wpAny_Constant_int (PyProof.Rows.neg_int
   (wpE (rev_ok (s:={s₁ with toks:=s₁.toks+1+1}) I₁ q.1 q.2.1 q.2.2) fun v s₃ p=>p.from (ss₁.trans ⟨rfl,rfl,rfl⟩)))))))))
theorem snd_att {a:X}{nm:String}{x:PySem.Str}{p pos:Pos}(G:Good3 cx)(ha:SndX cx ch N k a (.Name x p)):SndX cx ch N k (.att a nm) (.Attribute (.Name x p) (Str.ofString nm) pos):=fun T ss I q=>
 PyProof.Rows.Attribute_Name_ (wpV (ha T ss I q) fun ω ω ω ω ss₁ ra I₁ q₁=>T.top.elim fun F0 tp=>by
  subst tp
  exact wpE (att_ok G.toGood2 I₁ ra q₁) fun v s₃ p=>p.from ss₁)
theorem put_same (I:Inv cx F aux σ s.heap){a:Nat}{o o':O}(e:σ a=some o)(x:OR cx s.heap a o')(nt:o.lit=false)(fx:o'.fixed=true)(q:∀σ',Ext [a] σ σ'→σ' a=some o'→Q (.ref a) σ'):∃σ',Inv cx F aux σ' s.heap∧Q (.ref a) σ':=
 have z:=I.sep _ _ e
 ⟨_,I.put x z.1 (fun q hq y=>⟨fx,(z.2.1 q hq y).2⟩) (z.2.2.resolve_right fun y=>by rw [nt] at y;cases y),q _ put_ext1 (put_self ..)⟩
theorem frz_ok (I:Inv cx F aux σ s.heap){a}(q:wpFrz a σ Q):∃σ',Inv cx F aux σ' s.heap∧Q a σ':=by
 cases a with
 |ref a=>
  refine q.elim (fun q=>q.elim fun vs q=>?_) fun q=>q.elim fun b q=>q.elim fun kv q=>?_
  ·exact put_same (o':=.list false vs) I q.1 (have z:OR cx s.heap a (.list true vs):=I.sto _ _ q.1;z.elim fun c z=>⟨c,z.1,z.2.1,nofun⟩) rfl rfl q.2
  ·exact put_same (o':=.dict false kv) I q.1 (have z:OR cx s.heap a (.dict b kv):=I.sto _ _ q.1;z) rfl rfl q.2
 |_=>exact q.elim
theorem plainT_ {e:PySem.Expr}(ok:plainT e=true){M:Sem Value}:isTrue e env M=(do let v←M;standAt e.pos;holding [v] (truthy v)):=by
 cases e<;>first |(cases ok;done) |rfl
theorem tst_val {x:X}{e:PySem.Expr}(ok:plainT e=true)(h:SndX cx ch N k x e):SndT cx ch N k (.val x) e:=fun T ss I q=>
 PyProof.Rows.isTrue_plain (wpV (h T ss I q) fun va s₁ a σ₁ ss₁ ra I₁ q=>vT_ ra q fun b q=>wpAny_truthy_bool ⟨σ₁,ss₁,I₁,q⟩) (plainT_ ok)
theorem tst_not {t:T}{e:PySem.Expr}{pos:Pos}(h:SndT cx ch N k t e):SndT cx ch N k (.not t) (.UnaryOp .Not e pos):=fun T ss I q=>
 PyProof.Rows.isTrue_not (wpB (h T ss I q) fun ω ω σ₁ ss₁ I₁ q₁=>⟨σ₁,ss₁,I₁,q₁⟩)
variable (cx ch N) in
inductive SndTs (k:SC):List T→List PySem.Expr→Prop
 |nil:SndTs k [] []
 |cons {x r e es}:SndT cx ch N k x e→SndTs k r es→SndTs k (x::r) (e::es)
theorem tst_ands {ts:List T}{es:List PySem.Expr}(h:SndTs cx ch N k ts es):∀{Q:Bool→Sto→Prop} {σ:Sto} {s:Shared},At k A N env envs F aux m ca μ→SS g s→Inv cx F aux σ s.heap→wpAnd ch ts μ σ Q E→
  wpAny cx.M A (allTrue .And es env) (PBt cx F aux g Q) (PEx cx F aux envs g true E) s:=by
 induction h with
 |nil=>exact fun T ss I q=>wpAny_pure (a:=true) ⟨_,ss,I,q⟩
 | @cons t r e es ht _ ih=>
  intro Q σ s T ss I q
  show wpAny _ _ (do
   match BoolOp.And,←isTrue e env (eval e env) with
   |.And,false=>pure false
   |.Or,true=>pure true
   |_,_=>allTrue .And es env) _ _ s
  refine wpAny_bind (wpB (ht T ss I q) fun b s₁ σ₁ ss₁ I₁ q=>?_)
  cases b with
  |false=>exact wpAny_pure ⟨σ₁,ss₁,I₁,q⟩
  |true=>exact ih T ss₁ I₁ q
theorem tst_and {ts:List T}{es:List PySem.Expr}{pos:Pos}(h:SndTs cx ch N k ts es):SndT cx ch N k (.and ts) (.BoolOp .And es pos):=fun T ss I q=>tst_ands h T ss I q
theorem tst_ors {ts:List T}{es:List PySem.Expr}(h:SndTs cx ch N k ts es):∀{Q:Bool→Sto→Prop} {σ:Sto} {s:Shared},At k A N env envs F aux m ca μ→SS g s→Inv cx F aux σ s.heap→wpOr ch ts μ σ Q E→
  wpAny cx.M A (allTrue .Or es env) (PBt cx F aux g Q) (PEx cx F aux envs g true E) s:=by
 induction h with
 |nil=>exact fun T ss I q=>wpAny_pure (a:=false) ⟨_,ss,I,q⟩
 | @cons t r e es ht _ ih=>
  intro Q σ s T ss I q
  show wpAny _ _ (do
   match BoolOp.Or,←isTrue e env (eval e env) with
   |.And,false=>pure false
   |.Or,true=>pure true
   |_,_=>allTrue .Or es env) _ _ s
  refine wpAny_bind (wpB (ht T ss I q) fun b s₁ σ₁ ss₁ I₁ q=>?_)
  cases b with
  |true=>exact wpAny_pure ⟨σ₁,ss₁,I₁,q⟩
  |false=>exact ih T ss₁ I₁ q
theorem tst_or {ts:List T}{es:List PySem.Expr}{pos:Pos}(h:SndTs cx ch N k ts es):SndT cx ch N k (.or ts) (.BoolOp .Or es pos):=fun T ss I q=>tst_ors h T ss I q
theorem tst_ite {c a b:T}{t x y:PySem.Expr}{pos:Pos}(hc:SndT cx ch N k c t)(ha:SndT cx ch N k a x)(hb:SndT cx ch N k b y):SndT cx ch N k (.ite c a b) (.IfExp t x y pos):=fun T ss I q=>
 PyProof.Rows.isTrue_IfExp (wpB (hc T ss I q) fun c ω ω ss₁ I₁ q=>match c,q with
  |true,q=>ha T ss₁ I₁ q
  |false,q=>hb T ss₁ I₁ q)
variable (cx ch N) in
inductive SndCh (k:SC):List X→List COp→List PySem.Expr→Prop
 |one {x op e}:SndX cx ch N k x e→SndCh k [x] [op] [e]
 |cons {x y r op o ops e f es}:SndX cx ch N k x e→SndCh k (y::r) (o::ops) (f::es)→SndCh k (x::y::r) (op::o::ops) (e::f::es)
theorem chain_snd (G:Good3 cx){xs:List X}{ops:List COp}{rs:List PySem.Expr}(h:SndCh cx ch N k xs ops rs):∀{va:Value} {a:V} {pos:Pos} {Q:Bool→Sto→Prop} {σ:Sto} {s:Shared},VR va a→
  At k A N env envs F aux m ca μ→SS g s→Inv cx F aux σ s.heap→wpCh ch xs ops a μ σ Q E→
  wpAny cx.M A (testChain pos va (ops.map copOf) (evalEach rs env)) (PBt cx F aux g Q) (PEx cx F aux envs g true E) s:=by
 induction h with
 | @one x op e hx=>
  intro va a pos Q σ s ra T ss I q
  refine PyProof.Rows.test_last (wpV (hx T ss I q) fun ω ω ω σ₁ ss₁ rb I₁ q₁=>wpE (cmp_ok G.toGood I₁ T.ao ra rb op q₁) fun v s₂ p=>?_)
  cases p with |mk c tk e e' q₂=>exact e▸e'▸wpAny_truthy_bool ⟨σ₁,ss_tok ss₁,I₁,q₂⟩
 | @cons x y r op o ops e f es hx _ ih=>
  intro va a pos Q σ s ra T ss I q
  refine PyProof.Rows.test_link (wpV (hx T ss I q) fun ω ω ω σ₁ ss₁ rb I₁ q₁=>wpE (cmp_ok G.toGood I₁ T.ao ra rb op q₁) fun v s₂ p=>?_)
  cases p with |mk c tk e e' q=>
  rw [e,e']
  refine wpAny_truthy_bool ?_
  cases c with
  |false=>exact ⟨σ₁,ss_tok ss₁,I₁,q⟩
  |true=>exact ih rb T (ss_tok ss₁) I₁ q
theorem tst_cmp (G:Good3 cx){x:X}{xs:List X}{ops:List COp}{l:PySem.Expr}{rs:List PySem.Expr}{pos:Pos}(o2:lastMarks (ops.map copOf) rs=false)(hx:SndX cx ch N k x l)(h:SndCh cx ch N k xs ops rs) :
  SndT cx ch N k (.cmp x ops xs) (.Compare l (ops.map copOf) rs pos):=fun T ss I q=>by
 show wpAny _ _ (do testChain pos (←eval l _) (ops.map copOf) (markedEach (ops.map copOf) rs (evalEach rs _))) _ _ _
 rw [PyProof.Rows.markedEach_of_false _ _ _ o2]
 exact wpAny_bind (wpV (hx T ss I q) fun ω ω ω ω ss₁ ra I₁ q₁=>chain_snd G h ra T ss₁ I₁ q₁)
end
end Internal
end
section
open PySem PySem.W PySem.Calls PyProof.Rows
set_option maxRecDepth 100000
namespace Internal
noncomputable def PR (cx:Cx)(F:List Ns1)(aux:List (Addr×Obj))(envs:List Env)(g:Shared)(Q:PX)(E:PE)(r:Result)(s':Shared):Prop:=match r with
 |.ok (.ret v)=>PV cx F aux g Q v s'
 |.ok _=>False
 |.error e=>PEx cx F aux envs g true E e s'
structure ChOK (cx:Cx)(ch:Ch)(N:Nat):Prop where
 f:∀{A:Around} {envs F aux σ s g f vs args} {Q:PX} {E:PE},AOK A N→A.frames=some envs→EnvsOK envs F→F≠[]→SS g s→Inv cx F aux σ s.heap→VRs vs args→ch.f f args σ Q E→
  codeAny cx.M A (.call (.ref (fnAddr f)) ⟨vs,[]⟩) (PR cx F aux envs g Q E) s
 i:∀{A:Around} {envs F aux σ s g c vs args} {Q:PX} {E:PE},AOK A 4→A.frames=some envs→EnvsOK envs F→F≠[]→SS g s→Inv cx F aux σ s.heap→VRs vs args→ch.i c args σ Q E→
  codeAny cx.M A (.call (.ref (initAddr c)) ⟨vs,[]⟩) (PR cx F aux envs g Q E) s
theorem call_PR {cx:Cx}{F aux envs g}{Q:PX}{E:PE}{A:Around}{a:Addr}{vs:List Value}{s:Shared}(h:codeAny cx.M A (.call (.ref a) ⟨vs,[]⟩) (PR cx F aux envs g Q E) s) :
  wpAny cx.M A (call (.ref a) vs) (PV cx F aux g Q) (PEx cx F aux envs g true E) s:=
 wpAny_call (codeAny_mono h fun r s' x=>by rcases r with e |(v |_ |_ |_)<;>exact x)
section
variable {cx:Cx}{ch:Ch}{N:Nat}{k:SC}{e:PySem.Expr}{A:Around}{n:Nat}{env:Env}{envs:List Env}{F:List Ns1}{aux aux' ca:List (Addr×Obj)}{m:PySem.Str→Option Value}{μ:List V}{σ:Sto}{s g:Shared}{Q:PX}{E:PE}
noncomputable def KeepV (cx:Cx)(f:Value):Prop:=∀h,cx.K.In h→∃k,(k=Keeper.frame∨k=Keeper.machine∨k=Keeper.boundFrame)∧Looks cx.M h (keeperOf f) k
theorem keepV_ref {a:Addr}(h:keepIn cx.K (.ref a)=true):KeepV cx (.ref a):=fun ω X=>keeps_K h _ X
theorem keepV_b {x:String}:KeepV cx (.builtin x):=fun ω ω=>⟨.machine,.inr (.inl rfl),Looks.of_pure rfl⟩
theorem keepV_t {x:String}:KeepV cx (.type x):=fun ω ω=>⟨.machine,.inr (.inl rfl),Looks.of_pure rfl⟩
theorem Inv.K (G:Good3 cx)(I:Inv cx F aux σ s.heap):cx.K.In s.heap:=G.toGood.K.keeps I.stays
theorem with_any (G:Good3 cx){f:Value}(kv:KeepV cx f){xs:List X}{es:List PySem.Expr}{pos:Pos}{first:List Value}{R:List V→Sto→Prop}{P:Value→Shared→Prop}(h:SndXs cx ch N k xs es)
  (T:At k A N env envs F aux m ca μ)(ss:SS g s)(I:Inv cx F aux σ s.heap)(q:wpXs ch xs μ σ R E)
  (hc:∀vs as σ' s',SS g s'→VRs vs as→as.length=xs.length→Inv cx F aux σ' s'.heap→R as σ'→wpAny cx.M A (call f (first++vs)) P (PEx cx F aux envs g true E) s') :
  wpAny cx.M A (callWith pos f first (backTo pos (starEach es env)) []) P (PEx cx F aux envs g true E) s:=by
 refine callWith_of (P:=cx.K.In) (by rw [plain_xs h];rfl) kv ?_
 have:=snd_xs h (pos:=pos) T ss I q
 cases h with
 |nil=>exact PyProof.Rows.evalArgs_nil3 ⟨I.K G,hc [] [] σ s ss .nil rfl I q⟩
 |cons hs _ _=>
  rw [star_one _ hs] at this⊢
  exact Calls.evalArgs_plain (wpVs this fun vs s₁ as σ₁ ss₁ rs I₁ q₁=>⟨I₁.K G,hc vs as σ₁ s₁ ss₁ rs q₁.1 I₁ q₁.2⟩)
theorem Call_n {c:PySem.Expr}{x:String}{es:List PySem.Expr}{pos:Pos}{w:Value}{P:Value→Shared→Prop}{E:Value→Shared→Prop}(G:Good3 cx)(gv:GV cx x w)(ok:okGE k x c=true)(T:At k A n env envs F aux m ca μ)(I:Inv cx F aux σ s.heap)
  (h:wpAny cx.M A (callWith pos w [] (backTo pos (starEach es env)) []) P E s):wpAny cx.M A (eval (.Call c es [] pos) env) P E s:=by
 refine (okGE_ ok).elim fun p z=>?_
 rw [z.1] at ok⊢
 exact PyProof.Rows.Call_ (name_T G.toGood gv ok T I h)
theorem snd_fn (G:Good3 cx)(C:ChOK cx ch N){xs:List X}{f:Nat}{c:PySem.Expr}{es:List PySem.Expr}{pos:Pos}(o1:okGE k (fnName f) c=true)(o2:f<55)(h:SndXs cx ch N k xs es):SndX cx ch N k (.fn f xs) (.Call c es [] pos):=fun T ss I q=>
 Call_n G (G.fnG f o2).1 o1 T I (with_any G (keepV_ref (G.fnG f o2).2) h T ss I q fun ω ω ω ω ss' rs ω I' q'=>call_PR (C.f T.ao T.stk T.eo T.ne ss' I' rs q'))
theorem under_tc (a:Addr)(vs:List Value):AOK A N→6≤N→AOK (A.under (.builtin "type.__call__" ⟨.ref a::vs,[]⟩)) 4:=fun h h2=>by
 refine ⟨h.hd,?_,?_⟩
 ·have:=h.dp
  rw [depth_under_kw]
  lia
 ·have:=h.un
  show A.units+1+3*4+300≤9900
  lia
theorem snd_mk (G:Good3 cx)(C:ChOK cx ch N)(hN:6≤N∨∀c as σ Q E,¬ch.i c as σ Q E){xs:List X}{c:Nat}{gx:PySem.Expr}{es:List PySem.Expr}{pos:Pos}(o1:okGE k (clsName c) gx=true)(o2:2≤c∧c≤7)(h:SndXs cx ch N k xs es):SndX cx ch N k (.mk c xs) (.Call gx es [] pos):=by
  intro A env envs F aux m ca μ σ s g Q E T ss I q
  have gc:=G.clsG c o2
  refine Call_n G gc.1 o1 T I (with_any G (keepV_ref gc.2.1) h T ss I q fun vs as σ₁ s₁ ss₁ rs ω I₁ q₁=>call_PR ?_)
  obtain ⟨hp,gs,d,tk,os⟩:=s₁
  refine make_core (makes_of (I₁.K G) gc.2.2.1) (looks_findIn (I₁.K G) gc.2.2.2.1) (fun self=>bind_fn (I₁.K G) self gc.2.2.2.2) (.inl rfl) ?_
  clear gc ss I q h o1
  have hz:(hp.push emptyDict).objs.size=hp.objs.size+1:=Heap.size_push ..
  have x1:OR cx (hp.push emptyDict) hp.objs.size (.idict []):=⟨[],0,Heap.get?_push_size _ rfl,.nil,Nat.zero_le _⟩
  have I₃:=I₁.new (I₁.keep (keep_push emptyDict)) x1 (Nat.le_refl _)
  have x2:OR cx ((hp.push emptyDict).push (instObj (clsAddr c) hp.objs.size)) (hp.objs.size+1) (.inst (clsAddr c) hp.objs.size):=hz▸Heap.get?_push_size (hp.push emptyDict) (o:=instObj (clsAddr c) hp.objs.size) rfl
  have I₄:=I₃.new (I₃.keep (keep_push _)) x2 (Nat.le_of_eq hz)
  have a1:σ₁ hp.objs.size=none:=I₁.old (Nat.le_refl _)
  have b1:σ₁ (hp.objs.size+1)=none:=I₁.old (Nat.le_succ _)
  have ne:hp.objs.size≠hp.objs.size+1:=Nat.ne_of_lt (Nat.lt_succ_self _)
  have q₂:=q₁ hp.objs.size (hp.objs.size+1) _ a1 b1 ne (fun b o hb eb=>put_ext (by rw [put_ne ne.symm];exact b1) b o hb (put_ext a1 b o hb eb)) (by rw [put_ne ne,put_self]) (put_self ..)
  exact hN.elim (fun hN=>codeAny_mono (C.i (under_tc _ _ T.ao hN) T.stk T.eo T.ne (ss₁.trans ⟨rfl,rfl,rfl⟩) I₄ (.cons (.ref _) rs) q₂) fun r s' z=>by
   rcases r with e |(v |_ |_ |_)
   ·exact z
   ·exact z.elim
   ·exact z.elim
   ·exact z.elim
   ·cases z with |mk a σ' ss' ra I' q'=>rw [q'.1] at ra;exact ⟨ra.none',_,σ',ss',.ref _,I',q'.2⟩) fun hN=>(hN _ _ _ _ _ q₂).elim
end
end Internal
end
section
open PySem PySem.W PySem.Calls PyProof.Rows
set_option maxRecDepth 100000
namespace Internal
section
variable {M:Model}{A:Around}{env:Env}
set_option tactic.hygienic true in
theorem base_obj {o:PySem.Expr}{name:PySem.Str}(h:objM o=true):attributeBase o name env (eval o env)=eval o env:=by
 cases o<;>first |rfl |(cases h;done) |skip
 rename_i f args kw pos
 cases args with
 |nil=>cases h
 |cons=>cases f<;>rfl
theorem methCall {o:PySem.Expr}{name:PySem.Str}{apos pos:Pos}{args:List PySem.Expr}{P:Value→Shared→Prop}{E:Value→Shared→Prop}{s:Shared}(ho:objM o=true)(hp:(backTo pos (starEach args env)).any (·.1)=false)(hl:args.length<30)(hpos:apos.endLine=pos.line)
  (h:wpAny M A (eval o env) (fun ov s₁=>∀pl,wpAny M A (getMethod ov name pl) (fun fx s₂=>wpAny M A (callWith pos fx.1 fx.2 (backTo pos (starEach args env)) []) P E s₂) E s₁) E s) :
  wpAny M A (eval (.Call (.Attribute o name apos) args [] pos) env) P E s:=by
 show wpAny M A (do
  let ov←attributeBase o name env (eval o env)
  standAt apos.atName
  methodCall o name apos pos env ov (args.length+0) (backTo pos (starEach args env)) []) P E s
 rw [base_obj ho]
 refine wpAny_bind (wpE h fun ov s₁ h₁=>wpAny_bind (wpAny_standAt ?_))
 have few:methodCallForm (args.length+0) (backTo pos (starEach args env)) []=true:=by
  unfold methodCallForm
  have e1:(backTo pos (starEach args env)).all (fun x=>!x.1)=true:=by rw [←List.not_any_eq_all_not,hp];rfl
  rw [e1]
  exact decide_eq_true hl
 unfold methodCall
 rw [few]
 refine wpAny_bind (wpAny_holding (wpE (h₁ _) fun fx s₂ h₂=>?_))
 obtain ⟨f,first⟩:=fx
 have mp:methodCallPos true o env apos pos=pure pos:=by
  unfold methodCallPos
  exact if_pos (show (false||apos.endLine==pos.line)=true from beq_iff_eq.mpr hpos)
 refine wpAny_bind ?_
 rw [mp]
 exact wpAny_pure h₂
end
section
variable {cx:Cx}{ch:Ch}{N:Nat}{k:SC}{e:PySem.Expr}{A:Around}{n:Nat}{env:Env}{envs:List Env}{F:List Ns1}{aux aux' ca:List (Addr×Obj)}{m:PySem.Str→Option Value}{μ:List V}{σ:Sto}{s g:Shared}{Q:PX}{E:PE}
theorem snd_mth (G:Good3 cx)(C:ChOK cx ch N){a:X}{xs:List X}{nm:String}{v:PySem.Expr}{es:List PySem.Expr}{ap pos:Pos}(o1:objM v=true)(o2:ap.endLine=pos.line)(o4:es.length<30)(ha:SndX cx ch N k a v)(h:SndXs cx ch N k xs es) :
  SndX cx ch N k (.mth a nm xs) (.Call (.Attribute v (Str.ofString nm) ap) es [] pos):=by
  intro A env envs F aux m ca μ σ s g Q E T ss I q
  refine methCall o1 (plain_xs h) o4 o2 (wpV (ha T ss I q) fun va s₁ a σ₁ ss₁ ra I₁ q=>?_)
  refine vR_ ra q fun b q=>q.elim fun C' q=>q.elim fun dx q=>q.elim fun fs q=>q.elim fun f q=>?_
  intro pl
  have hC:C'=357:=by
   have hm:=q.2.2.2.1
   unfold methFn at hm
   by_cases z:C'=357
   ·exact z
   ·rw [if_neg z] at hm;cases hm
  subst hC
  have gm:=G.mthG _ _ q.2.2.2.1
  refine (I₁.inst q.1 q.2.1).elim fun es' i=>i.elim fun n' i=>T.top.elim fun F0 tp=>?_
  subst tp
  exact method_inst I₁.fr G.toGood.K i.1 gm.1 gm.2.1 gm.2.2.1 (i.2.2.getLNone q.2.2.1) (with_any G (keepV_ref gm.2.2.2) h T ss₁ I₁ q.2.2.2.2 fun vs as σ' s' ss' rs ω I' q'=>call_PR (C.f T.ao T.stk T.eo T.ne ss' I' (.cons (.ref _) rs) q'))
theorem blt_mem {x:String}{w:Value}(G:Good3 cx)(h:(x,w)∈bltTab):GV cx x w:=G.blt x w h
theorem snd_one (G:Good3 cx){a:X}{x:String}{w:Value}{c y:PySem.Expr}{pos:Pos}{R:PX}(hs:isStar y=false)(ha:SndX cx ch N k a y)(hw:(x,w)∈bltTab)(kv:KeepV cx w)(o1:okGE k x c=true)
  (T:At k A N env envs F aux m ca μ)(ss:SS g s)(I:Inv cx F aux σ s.heap)(q:wpX ch a μ σ R E)
  (hc:∀v b σ' s',SS g s'→VR v b→Inv cx F aux σ' s'.heap→R b σ'→wpAny cx.M A (call w [v]) (PV cx F aux g Q) (PEx cx F aux envs g true E) s') :
  wpAny cx.M A (eval (.Call c [y] [] pos) env) (PV cx F aux g Q) (PEx cx F aux envs g true E) s:=
 Call_n G (blt_mem G hw) o1 T I (callWith_of (P:=cx.K.In) (by rw [star_one [] hs];rfl) kv (by
  rw [star_one [] hs]
  exact Calls.evalArgs_plain (Calls.spliced_cons (wpV (ha T ss I q) fun v s₁ b σ₁ ss₁ rb I₁ q₁=>Calls.spliced_nil ⟨I₁.K G,hc v b σ₁ s₁ ss₁ rb I₁ q₁⟩))))
theorem snd_len (G:Good3 cx){a:X}{c y:PySem.Expr}{pos:Pos}(o:okGE k "len" c=true)(hs:isStar y=false)(ha:SndX cx ch N k a y):SndX cx ch N k (.len a) (.Call c [y] [] pos):=fun T ss I q=>
 snd_one G hs ha (x := "len") (.head _) keepV_b o T ss I q fun v b σ' s' ss' r I' q'=>wpE (len_ok G.toGood I' r q') fun ω ω p=>p.from ss'
theorem snd_byt (G:Good3 cx){a:X}{c y:PySem.Expr}{pos:Pos}(o:okGE k "bytes" c=true)(hs:isStar y=false)(ha:SndX cx ch N k a y):SndX cx ch N k (.byt a) (.Call c [y] [] pos):=fun T ss I q=>
 snd_one G hs ha (x := "bytes") (.tail _ (.tail _ (.tail _ (.head _)))) keepV_t o T ss I q fun v b σ' s' ss' r I' q'=>wpE (byt_ok I' T.ao r q') fun ω ω p=>p.from ss'
theorem snd_dcp (G:Good3 cx){a:X}{c y:PySem.Expr}{pos:Pos}(o:okGE k "dict" c=true)(hs:isStar y=false)(ha:SndX cx ch N k a y):SndX cx ch N k (.dcp a) (.Call c [y] [] pos):=fun T ss I q=>
 snd_one G hs ha (x := "dict") (.tail _ (.tail _ (.tail _ (.tail _ (.tail _ (.head _)))))) keepV_t o T ss I q fun v b σ' s' ss' r I' q'=>wpE (dcp_ok G.toGood I' r q') fun ω ω p=>p.from ss'
theorem ty_mem:∀t:Ty,(tyName t,Value.type (tyName t))∈bltTab
 |.list=>.tail _ (.tail _ (.head _))
 |.bytes=>.tail _ (.tail _ (.tail _ (.head _)))
 |.bool=>.tail _ (.tail _ (.tail _ (.tail _ (.head _))))
theorem snd_isi (G:Good3 cx){a:X}{t:Ty}{c x:PySem.Expr}{z:PySem.Str}{zp pos:Pos}(o1:okGE k "isinstance" c=true)(hs:isStar x=false)(ha:SndX cx ch N k a x)(o3:okGE k (tyName t) (.Name z zp)=true):SndX cx ch N k (.isi a t) (.Call c [x,.Name z zp] [] pos):=by
  intro A env envs F aux m ca μ σ s g Q E T ss I q
  refine Call_n G (blt_mem G (x := "isinstance") (w:=.builtin "isinstance") (.tail _ (.head _))) o1 T I ?_
  have st:starEach [x,.Name z zp] env=[(false,eval x env),(false,eval (.Name z zp) env)]:=by rw [star_one _ hs];rfl
  refine callWith_builtin (by rw [st];rfl) ?_
  rw [st]
  refine Calls.evalArgs_plain (Calls.spliced_cons (wpV (ha T ss I q) fun va s₁ a σ₁ ss₁ ra I₁ q₁=>?_))
  refine Calls.spliced_cons (name_T G.toGood (blt_mem G (ty_mem t)) o3 T I₁ (Calls.spliced_nil ?_))
  exact wpE (isi_ok I₁ ra t q₁) fun ω ω p=>p.from ss₁
theorem snd_toB {a b:X}{l:Bool}{v x:PySem.Expr}{ap wp pos:Pos}{kd:Nat}(o1:objM v=true)(o2:ap.endLine=pos.line)(ha:SndX cx ch N k a v)(hs:isStar x=false)(hb:SndX cx ch N k b x) :
  SndX cx ch N k (.toB a b l) (.Call (.Attribute v (Str.ofString "to_bytes") ap) [x,.Constant (.str (Str.ofString (if l then "little" else "big"))) kd wp] [] pos):=by
  intro A env envs F aux m ca μ σ s g Q E T ss I q
  have st:∀u,starEach [x,.Constant (.str u) kd wp] env=[(false,eval x env),(false,eval (.Constant (.str u) kd wp) env)]:=fun u=>by rw [star_one _ hs];rfl
  refine methCall o1 (by rw [st];rfl) (show 2<30 by decide) o2 (wpV (ha T ss I q) fun va s₁ a σ₁ ss₁ ra I₁ q=>?_)
  refine vI_ ra q fun i t q₁ pl=>KTBy.method ?_
  refine callWith_builtin (by rw [st];rfl) ?_
  rw [st]
  refine Calls.evalArgs_plain (Calls.spliced_cons (wpV (hb T ss₁ I₁ q₁) fun vb s₂ b σ₂ ss₂ rb I₂ q₂=>?_))
  refine Calls.spliced_cons ?_
  refine Calls.Constant_str (pos:=wp) (k:=kd) (Calls.spliced_nil ?_)
  exact wpE (toB_ok (s:={s₂ with toks:=s₂.toks+1}) I₂ (.int i t) rb q₂) fun ω ω p=>p.from (ss_tok ss₂)
theorem snd_bitl {a:X}{v:PySem.Expr}{ap pos:Pos}(o1:objM v=true)(o2:ap.endLine=pos.line)(ha:SndX cx ch N k a v):SndX cx ch N k (.bitl a) (.Call (.Attribute v (Str.ofString "bit_length") ap) [] [] pos):=by
  intro A env envs F aux m ca μ σ s g Q E T ss I q
  refine methCall o1 rfl (show 0<30 by decide) o2 (wpV (ha T ss I q) fun va s₁ a σ₁ ss₁ ra I₁ q=>?_)
  refine vI_ ra q fun i t q₁ pl=>?_
  with_reducible refine getMethod_builtin (typeIs_int _ _ _) PySem.F.plainAttrs_int PySem.F.slot_int_bit_length PySem.F.type_int_bit_length GMI.noRef ?_
  refine callWith_method0 ?_
  exact wpE (bitl_ok I₁ q₁) fun ω ω p=>p.from ss₁
theorem fb_method {pl:Sem Bool}{P:Value×List Value→Shared→Prop}{E':Value→Shared→Prop}(G:Good3 cx)(X:cx.K.In s.heap)(h:P (.ref s.heap.objs.size,[]) {s with heap:=s.heap.push KFB.bound,toks:=s.toks+1}) :
  wpAny cx.M A (getMethod (.type "int") (PySem.Str.ofString "from_bytes") pl) P E' s:=by
 have t1:Looks cx.M s.heap (typeOf (.type "int")) (.type "type"):=Looks.of_pure (by first |rfl |kernel_rfl)
 have t2:Looks cx.M s.heap (opaqueClassAbove (.type "int")) none:=Looks.of_pure (by unfold opaqueClassAbove;dsimp only;rw [show Manifest.isStub "int" = false by decide +kernel];rfl)
 have t3:findIn cx.K (.type "type") "__getattribute__" = some (some (.builtin "type.__getattribute__")):=type_tga
 have get:wpAny cx.M A (getAttr (.type "int") (PySem.Str.ofString "from_bytes")) (fun v=>P (v,[])) E' s:=by
  refine cls_open X t2 t1 t3 (looks_hook X (r:=none) (by rfl)) (by show subIn cx.K _ _=_;rfl) G.fromB ?_
  refine wpAny_bind (wpAny_holding (wpAny_call_entry KFB.slot_get KFB.type_fb KFB.entry_get (KFB.run_get ⟨_,rfl,wpAny_pure ?_⟩) (KFB.args_get _ _ _)))
  exact wpAny_pure h
 unfold getMethod specialOf
 refine wpAny_bind (wpAny_bind (t1.here ((looks_findIn X t3).here ?_)))
 dsimp only
 rw [if_pos canon_tga]
 exact wpAny_bind (wpE get fun ω ω z=>wpAny_pure z)
theorem snd_frB (G:Good3 cx){a:X}{vz:PySem.Str}{x:PySem.Expr}{vp ap wp pos:Pos}{kd:Nat}(o1:ap.endLine=pos.line)(o2:okGE k "int" (.Name vz vp)=true)(hs:isStar x=false)(ha:SndX cx ch N k a x) :
  SndX cx ch N k (.frB a) (.Call (.Attribute (.Name vz vp) (Str.ofString "from_bytes") ap) [x,.Constant (.str (Str.ofString "big")) kd wp] [] pos):=by
  intro A env envs F aux m ca μ σ s g Q E T ss I q
  have st:∀u,starEach [x,.Constant (.str u) kd wp] env=[(false,eval x env),(false,eval (.Constant (.str u) kd wp) env)]:=fun u=>by rw [star_one _ hs];rfl
  refine methCall rfl (by rw [st];rfl) (show 2<30 by decide) o1 ?_
  refine name_T G.toGood (blt_mem G (x := "int") (w:=.type "int") (.tail _ (.tail _ (.tail _ (.tail _ (.tail _ (.tail _ (.tail _ (.head _))))))))) o2 T I ?_
  intro pl
  refine fb_method G (I.K G) ?_
  have I₁:=(I.keep (keep_push KFB.bound)).aux_new I (Heap.get?_push_size _ rfl) (Nat.le_refl _)
  refine KFB.callWith_fields (by rw [st];rfl) ?_
  rw [st]
  refine Calls.evalArgs_plain (Calls.spliced_cons (wpAny_mono (ha (T.aux_ fun q hq=>.tail _ hq) (ss.trans ⟨rfl,rfl,rfl⟩) I₁ q) (fun va s₁ p=>?_) fun v s' p=>p.sub T.ne (List.Sublist.refl _) fun q hq=>.tail _ hq))
  cases p with |mk a σ₂ ss₂ ra I₂ q=>
  refine Calls.spliced_cons (Calls.Constant_str (pos:=wp) (k:=kd) (Calls.spliced_nil ⟨(I₂.auxs _ (.head _)).1,?_⟩))
  have I₃:=I₂.sub T.ne (List.Sublist.refl _) (aux':=aux) fun q hq=>.tail _ hq
  cases a<;>first |exact q.elim |skip
  exact wpE (frB_ok (s:={s₁ with toks:=s₁.toks+1}) I₃ ra (I₂.auxs _ (.head _)).1 q.1 q.2) fun ω ω p=>p.from (ss_tok ss₂)
end
end Internal
end
section
open PySem PySem.W PySem.Calls PyProof.Rows
set_option maxRecDepth 100000
namespace Internal
theorem slot_bytes_join:Slot "bytes" "join" "bytes.join" :=
 .of (owner := "bytes") (n := "join") (by rw [typeLookup_type,builtinLookup_eq_fast];kernel_rfl) (by decide +kernel) (by decide +kernel) (by decide +kernel)
  (by first |exact .inl (by decide +kernel) |exact .inr (by decide +kernel)) (by rw [isSubtype_type];kernel_rfl)
theorem type_bytes_join:typeOf (.builtin "bytes.join")=pure (.type "method_descriptor"):=by show builtinType _=_;rw [builtinType_eq_fast];kernel_rfl
theorem entry_bytes_join:entryFor table "bytes.join" = some Builtin.«bytes.join»:=entryFor_of_tree (by kernel_rfl)
theorem args_bytes_join (a b:Value):argsOk "bytes.join" ⟨[a,b],[]⟩:=by
 unfold argsOk;first |kernel_rfl |(rw [signature?_of (id := "bytes.join") (n:=['n','i','o','j']) (o:=['s','e','t','y','b']) (by kernel_rfl) FB.owner_bytes];kernel_rfl)
theorem take_bytes (id:String)(b t):Builtin.Bytes.takeBufferQuiet? id (.bytes b t) 0=pure (some (b,none)):=by kernel_rfl
noncomputable def TakenOK (l:List (Value×Option Value)):Prop:=∀p∈l,∃b t,p=(.bytes b t,none)
theorem taken_any {l}(h:TakenOK l):(l.any fun x=>x.fst.onHeap)=false:=by
 rw [List.any_eq_false]
 intro p hp
 obtain ⟨b,t,rfl⟩:=h p hp
 simp [Value.onHeap]
theorem joined_nil (ps:List (Array UInt8)):Builtin.Bytes.joined #[] ps=((ps.map Array.toList).flatten).toArray:=by
 unfold Builtin.Bytes.joined
 have:∀(l:List (Array UInt8)) (k:Nat) (acc:Array UInt8),(l.zipIdx k).foldl (fun out (p,i)=>(if i>0 then out++#[] else out)++p) acc=acc++((l.map Array.toList).flatten).toArray:=by
  intro l
  induction l with
  |nil=>intro k acc;simp
  |cons a l ih=>
   intro k acc
   rw [List.zipIdx_cons,List.foldl_cons,ih]
   by_cases h:k>0<;>simp [h,Array.append_assoc]<;>(apply Array.ext';simp)
 rw [this]
 simp
section
variable {M:Model}{A:Around}{E:Value→Shared→Prop}{s:Shared}
theorem join_letGo {l:List (Value×Option Value)}{keep:List Value}(h:TakenOK l){P:Unit→Shared→Prop}(hq:P () s):wpAny M A (Builtin.Bytes.joinLetGo l keep) P E s:=by
 induction l with
 |nil=>exact wpAny_pure hq
 |cons p r ih=>
  obtain ⟨b,t,rfl⟩:=h _ (.head _)
  show wpAny M A (PySem.letGo [.bytes b t] (keep++r.flatMap fun (y,u)=>y::u.toList) >>= fun ω=>Builtin.Bytes.joinLetGo r keep) P E s
  refine wpAny_bind ?_
  show wpAny M A (holding _ point >>= fun ω=>pure ()) _ E s
  exact wpAny_bind (wpAny_holding (wpAny_point (wpAny_pure (ih fun p hp=>h p (.tail _ hp)))))
theorem join_loop {f:Nat→Array (Array UInt8)×List (Value×Option Value)→Sem (ForInStep (Array (Array UInt8)×List (Value×Option Value)))}{bs:List (Array UInt8)}
  (hf:∀i parts taken b,bs[i]? = some b→TakenOK taken→∀P:ForInStep (Array (Array UInt8)×List (Value×Option Value))→Shared→Prop,(∀taken',TakenOK taken'→P (.yield (parts.push b,taken')) s)→wpAny M A (f i (parts,taken)) P E s)
  {Q:Array (Array UInt8)×List (Value×Option Value)→Shared→Prop}:∀k i parts taken,i+k=bs.length→TakenOK taken→(∀taken',TakenOK taken'→Q ((parts.toList++bs.drop i).toArray,taken') s)→wpAny M A (forIn (List.range' i k 1) (parts,taken) f) Q E s:=by
 intro k
 induction k with
 |zero=>
  intro i parts taken hi ht hq
  have:=hq taken ht
  rw [List.drop_eq_nil_of_le (by lia)] at this
  simp only [List.range'_zero,List.forIn_nil]
  exact wpAny_pure (by simpa using this)
 |succ k ih=>
  intro i parts taken hi ht hq
  rw [List.range'_succ,List.forIn_cons]
  have hlt:i<bs.length:=by lia
  refine wpAny_bind (hf i parts taken bs[i] (List.getElem?_eq_getElem hlt) ht _ fun taken' ht'=>?_)
  refine ih (i+1) _ taken' (by lia) ht' fun t2 ht2=>?_
  have:=hq t2 ht2
  rw [List.drop_eq_getElem_cons hlt] at this
  simpa using this
theorem VRs.bytes {vs:List Value}:∀{ls:List (List UInt8)},VRs vs (ls.map V.bytes)→∀i,i<ls.length→∃t,vs[i]? = some (.bytes (ls.getD i []).toArray t):=by
 intro ls h i hi
 obtain ⟨v,e,r⟩:=h.get (i:=i) (a:=.bytes (ls.getD i [])) (by simp [hi])
 obtain ⟨t,rfl⟩:=r.bytes'
 exact ⟨t,e⟩
theorem len_one {α:Type}:∀{l:List α},l.length=1→∃x,l=[x]
 | [x],_=>⟨x,rfl⟩
theorem flat_one {ls:List (List UInt8)}{l:List UInt8}(e:ls=[l]):ls.flatten=l:=by rw [e];exact List.append_nil l
theorem meets_join (t:Tok)(a:Addr)(ls:List (List UInt8)):Meets (Builtin.«bytes.join» ⟨[.bytes #[] t,.ref a],[]⟩)
  (fun ω R s=>∃items,s.heap.IsList a items∧VRs items.toList (ls.map V.bytes)∧ls.flatten.length≤16777216∧∀t' k,R (.ok (.ret (.bytes ls.flatten.toArray t'))) {s with toks:=k}):=by
 refine .of_wp fun prog w A R s h=>?_
 refine h.elim fun items h=>h.1.elim fun o ho=>ho.2.2.elim fun n hd=>?_
 have hl:=h.1
 have hv:=h.2.1
 have hz:=h.2.2.1
 have hsz:items.size=ls.length:=(Array.length_toList.symm.trans hv.length).trans (List.length_map _)
 replace h:=h.2.2.2
 replace ho:=ho.1
 unfold Builtin.«bytes.join» Builtin.Bytes.joinM
 refine wpAny_bind (wpAny_of_eq (a:=(Value.bytes #[] t,Value.ref a)) rfl ?_)
 refine wpAny_ite_true (by rfl) ?_
 unfold Builtin.Bytes.joinItems
 refine wpAny_bind (wpAny_bind (wpAny_typeOf (Heap.IsList.typeIs hl) ?_))
 refine wpAny_ite_true (by decide) (wpAny_pure ?_)
 refine wpAny_bind (wpAny_seqItems ho hd ?_)
 refine wpAny_ite_true (by rfl) ?_
 have size0:items.size=items.toList.length:=by simp
 generalize hL:items.toList=L at hv size0
 have hI:items=L.toArray:=by rw [←hL]
 subst hI
 rcases L with _ |⟨x,_ |⟨y,r⟩⟩
 case cons.nil=>
  have hl1:ls.length=1:=hsz.symm
  refine (len_one hl1).elim fun l el=>?_
  refine (VRs.bytes hv 0 (hl1▸Nat.one_pos)).elim fun u e=>?_
  have e:x=.bytes l.toArray u:=by rw [el] at e;exact Option.some.inj e
  rw [e]
  refine wpAny_bind (wpAny_typeOf (typeIs_bytes _ _ _) ?_)
  refine wpAny_ite_true (by decide) (wpAny_bind (wpAny_rule (wpAny_pure ⟨_,rfl,?_⟩)))
  exact flat_one el▸h u s.toks
 case nil=>
  have h:∀t' k,R (.ok (.ret (.bytes #[] t'))) {s with toks:=k}:=by rw [List.eq_nil_of_length_eq_zero hsz.symm] at h;exact h
  refine wpAny_bind (wpAny_of_eq (a:=(#[],[])) (by rw [Std.Legacy.Range.forIn_eq_forIn_range'];rfl) (wpAny_bind (wpAny_of_eq (a:=#[]) rfl (wpAny_ite_false (by rfl) ?_))))
  exact wpAny_bind (wpAny_mkBytes (wpAny_bind (wpAny_holding (wpAny_point (wpAny_bind (wpAny_pure (wpAny_pure ⟨_,rfl,h _ _⟩)))))) (Nat.zero_le _))
 all_goals
  refine wpAny_bind ?_
  rw [Std.Legacy.Range.forIn_eq_forIn_range']
  refine join_loop (bs:=ls.map List.toArray) (fun i parts taken b hb ht P hP=>?_) _ 0 #[] [] (by rw [List.length_map,←hsz];simp [Std.Legacy.Range.size]) (fun ω h=>absurd h List.not_mem_nil) (fun taken' ht'=>?_)
  ·refine wpAny_bind (wpAny_seqItems ho hd ?_)
   refine wpAny_ite_false ?_ ?_
   ·show (false||_)=false
    rw [taken_any ht];rfl
   obtain ⟨hi,hb⟩:=List.getElem?_eq_some_iff.mp hb
   rw [List.length_map] at hi
   obtain ⟨u,e⟩:=VRs.bytes hv i hi
   have hx:∀d,(Array.getD (List.toArray _) i d)=Value.bytes b u:=fun d=>by
    rw [Array.getD_eq_getD_getElem?,List.getElem?_toArray,e,←hb]
    simp [hi]
   rw [hx]
   refine wpAny_bind (wpAny_holding (wpAny_of_eq (take_bytes _ _ _) ?_))
   refine wpAny_bind (wpAny_seqItems ho hd ?_)
   refine wpAny_ite_false (by simp) (wpAny_pure (hP _ fun p hp=>?_))
   rcases List.mem_append.mp hp with hp |hp
   ·exact ht p hp
   ·rw [List.mem_singleton.mp hp];exact ⟨_,_,rfl⟩
  ·refine wpAny_bind (wpAny_of_eq (a:=#[]) rfl ?_)
   have fl:((ls.map List.toArray).map Array.toList).flatten=ls.flatten:=by
    rw [List.map_map]
    congr 1
    exact List.map_id'' (fun l=>rfl) ls
   refine wpAny_ite_false ?_ ?_
   ·have fs:∀(l:List (List UInt8)) (k:Nat),(l.map List.toArray).foldl (fun (x1:Nat) (x2:Array UInt8)=>x1+x2.size) k=k+l.flatten.length:=by
     intro l
     induction l with
     |nil=>intro k;simp
     |cons a l ih=>intro k;rw [List.map_cons,List.foldl_cons,ih];simp;lia
    refine decide_eq_false ?_
    rw [KBy.tooLong_not]
    ·simp
    ·rw [List.drop_zero,List.nil_append]
     show Array.foldl _ _ (ls.map List.toArray).toArray≤_
     rw [List.foldl_toArray,fs]
     simpa using hz
   ·rw [List.drop_zero,List.nil_append,joined_nil,fl]
    refine wpAny_bind (wpAny_mkBytes (wpAny_bind (wpAny_holding (wpAny_point (wpAny_bind (join_letGo ht' (wpAny_pure ⟨_,rfl,h _ _⟩)))))) ?_)
    rw [sizeLine_eq];simpa using hz
end
section
variable {cx:Cx}{ch:Ch}{N:Nat}{k:SC}{e:PySem.Expr}{A:Around}{n:Nat}{env:Env}{envs:List Env}{F:List Ns1}{aux aux' ca:List (Addr×Obj)}{m:PySem.Str→Option Value}{μ:List V}{σ:Sto}{s g:Shared}{Q:PX}{E:PE}
theorem join_ok (I:Inv cx F aux σ s.heap){va a}{t:Tok}(ha:VR va a)(q:wpJoin a σ Q){E':Value→Shared→Prop}:wpAny cx.M A (call (.builtin "bytes.join") [.bytes #[] t,va]) (PV cx F aux s Q) E' s:=by
 cases ha with
 |ref a=>
  obtain ⟨b,ls,e,_,hz,q⟩:=q
  obtain ⟨c,l,r,_⟩:=I.sto _ _ e
  exact call_meets slot_bytes_join (typeIs_bytes _ _ _) entry_bytes_join (args_bytes_join _ _) (meets_join t a ls) ⟨c,l,r,hz,fun t' k=>pv_val I (VR.bytesL _ _) q⟩
 |_=>exact q.elim
theorem snd_join {a:X}{x:PySem.Expr}{kd:Nat}{cp ap pos:Pos}(o1:ap.endLine=pos.line)(hs:isStar x=false)(ha:SndX cx ch N k a x):SndX cx ch N k (.join a) (.Call (.Attribute (.Constant (.bytes []) kd cp) (Str.ofString "join") ap) [x] [] pos):=by
 intro A env envs F aux m ca μ σ s g Q E T ss I q
 have st:starEach [x] env=[(false,eval x env)]:=by rw [star_one _ hs];rfl
 refine methCall rfl (by rw [st];rfl) (show 1<30 by decide) o1 (PySem.W.Constant_bytes ?_)
 intro pl
 have nr:∀a,Value.bytes #[] s.toks=.ref a→∃o,s.heap.get? a=some o∧o.dict=none:=fun ω e=>nomatch e
 with_reducible refine KBd.method_of (.bytes #[] s.toks) (typeIs_bytes _ _ _) slot_bytes_join type_bytes_join nr ?_
 refine callWith_builtin (by rw [st];rfl) ?_
 rw [st]
 exact Calls.evalArgs_plain (Calls.spliced_cons (wpV (ha T (ss_tok ss) I q) fun va s₁ a σ₁ ss₁ ra I₁ q₁=>Calls.spliced_nil (wpE (join_ok I₁ ra q₁) fun ω ω p=>p.from ss₁)))
end
end Internal
end
section
open PySem PySem.W PySem.Calls PyProof.Rows
set_option maxRecDepth 100000
namespace Internal
noncomputable def ownedNames:List String:=["enumerate", "zip", "dict_itemiterator", "dict_reverseitemiterator", "odict_iterator", "itertools.zip_longest", "itertools.pairwise"]
structure ItOK (cx:Cx)(A:Around)(items:List V)(chk:Sto→Prop)(pp:List (Addr×Obj))(I:Addr)(S:Nat→Obj→Prop):Prop where
 cls:∀i o,S i o→∃nm,o.cls=.type nm∧ownedNames.contains nm=false
 dat:∀i o,S i o→∃vs,o.data=.fields vs
 pins:∀q∈pp,pin q.2=true
 next:∀{F aux σ} {s:Shared} {i o} {P:Option Value→Shared→Prop} {E:Value→Shared→Prop},Inv cx F ((I,o)::aux) σ s.heap→(∀q∈pp,q∈aux)→S i o→chk σ→(hi:i<items.length)→
  (∀v h' tk o',S (i+1) o'→h'.get? I=some o'→Heap.SameBut I s.heap h'→VR v items[i]→P (some v) {s with heap:=h',toks:=tk})→wpAny cx.M A (pyNext (.ref I)) P E s
 done:∀{F aux σ} {s:Shared} {o} {P:Option Value→Shared→Prop} {E:Value→Shared→Prop},Inv cx F ((I,o)::aux) σ s.heap→(∀q∈pp,q∈aux)→S items.length o→chk σ→
  (∀h',Heap.ExtBut I s.heap h'→P none {s with heap:=h'})→wpAny cx.M A (pyNext (.ref I)) P E s
 self:∀{s:Shared} {i o} {P:Value→Shared→Prop} {E:Value→Shared→Prop},s.heap.get? I=some o→S i o→P (.ref I) s→wpAny cx.M A (pyIter (.ref I)) P E s
section
variable {cx:Cx}{A:Around}{F:List Ns1}{aux aux' pp:List (Addr×Obj)}{σ:Sto}{s:Shared}{I:Addr}{o o':Obj}{h':Heap}{items:List V}{chk:Sto→Prop}{S:Nat→Obj→Prop}
theorem pin_fields {o:Obj}{vs:Array Value}(h:o.data=.fields vs):pin o=false:=by unfold pin;rw [h]
theorem Inv.it_next (J:Inv cx F ((I,o)::aux) σ s.heap)(ap:I∉aux.map (·.1))(hd:∃vs,o.data=.fields vs)(e:h'.get? I=some o')(sb:Heap.SameBut I s.heap h'):Inv cx F ((I,o')::aux) σ h':=by
 obtain ⟨vs,hd⟩:=hd
 have J':Inv cx F ([(I,o)]++aux) σ s.heap:=J
 have np:∀q∈[(I,o)],pin q.2=false:=fun q hq=>by rw [List.mem_singleton.mp hq];exact pin_fields hd
 have a1:∀q∈aux,q.1∉[(I,o)].map (·.1):=fun q hq z=>ap (List.mem_map.mpr ⟨q,hq,List.mem_singleton.mp z⟩)
 have k1:∀b ob,b∉[(I,o)].map (·.1)→s.heap.get? b=some ob→h'.get? b=some ob:=fun b ob hb eb=>sb.extBut b ob (fun z=>hb (z▸List.Mem.head [])) eb
 have n1:∀q∈[(I,o')],h'.get? q.1=some q.2∧(q.1∈[(I,o)].map (·.1)∨s.heap.objs.size≤q.1):=fun q hq=>by rw [List.mem_singleton.mp hq];exact ⟨e,.inl (List.Mem.head [])⟩
 exact Inv.aux_set J' k1 np a1 n1
theorem Inv.it_done (J:Inv cx F ((I,o)::aux) σ s.heap)(ap:I∉aux.map (·.1))(hd:∃vs,o.data=.fields vs)(sb:Heap.ExtBut I s.heap h'):Inv cx F aux σ h':=by
 obtain ⟨vs,hd⟩:=hd
 have J':Inv cx F ([(I,o)]++aux) σ s.heap:=J
 have np:∀q∈[(I,o)],pin q.2=false:=fun q hq=>by rw [List.mem_singleton.mp hq];exact pin_fields hd
 have a1:∀q∈aux,q.1∉[(I,o)].map (·.1):=fun q hq z=>ap (List.mem_map.mpr ⟨q,hq,List.mem_singleton.mp z⟩)
 have k1:∀b ob,b∉[(I,o)].map (·.1)→s.heap.get? b=some ob→h'.get? b=some ob:=fun b ob hb eb=>sb b ob (fun z=>hb (z▸List.Mem.head [])) eb
 have:Inv cx F ([]++aux) σ h':=Inv.aux_set (ia':=[]) J' k1 np a1 (fun q hq=>absurd hq List.not_mem_nil)
 exact this
theorem it_list (hh:A.handled=none){a:Nat}{vs:List V}:ItOK cx A vs (fun σ=>∃m,σ a=some (.list m vs)) [] I (fun i o=>o.cls=.type "list_iterator" ∧ o.data=.fields #[.ref a,.int i 0]) where
 cls:=fun i o h=>⟨_,h.1,by decide⟩
 dat:=fun i o h=>⟨_,h.2⟩
 pins:=fun q hq=>by first |(exact absurd hq List.not_mem_nil;done) |(rw [List.mem_singleton.mp hq];exact pn)
 next:=fun {F aux σ s i o P E} J _ hS hc hi k=>by
  obtain ⟨m,e⟩:=hc
  obtain ⟨c,l,r,_⟩:=J.sto _ _ e
  have hI:=(J.auxs _ (.head _)).1
  obtain ⟨v,hv,rv⟩:=r.get (i:=i) (a:=vs[i]) (by simp [hi])
  refine wpAny_pyNext_list_item ⟨o,hI,hS⟩ l (x:=v) (by simpa using hv) fun h' hit sb=>?_
  obtain ⟨o',g,c',d'⟩:=hit
  exact k v h' s.toks o' ⟨c',d'⟩ g sb rv
 done:=fun {F aux σ s o P E} J _ hS hc k=>by
  obtain ⟨m,e⟩:=hc
  obtain ⟨c,l,r,_⟩:=J.sto _ _ e
  have hI:=(J.auxs _ (.head _)).1
  have hl:=r.length
  rw [Array.length_toList] at hl
  exact wpAny_pyNext_list_end hh ⟨o,hI,hS⟩ l (by simp [hl]) fun h' eb=>k h' eb
 self:=fun {s i o P E} hI hS h=>wpAny_pyIter_listiter ⟨o,hI,hS⟩ h
theorem it_tup (hh:A.handled=none){a:Nat}{vs:List V}:ItOK cx A vs (fun σ=>σ a=some (.tup vs)) [] I (fun i o=>o.cls=.type "tuple_iterator" ∧ o.data=.fields #[.ref a,.int i 0]) where
 cls:=fun i o h=>⟨_,h.1,by decide⟩
 dat:=fun i o h=>⟨_,h.2⟩
 pins:=fun q hq=>by first |(exact absurd hq List.not_mem_nil;done) |(rw [List.mem_singleton.mp hq];exact pn)
 next:=fun {F aux σ s i o P E} J _ hS e hi k=>by
  obtain ⟨c,l,r⟩:=J.sto _ _ e
  have hI:=(J.auxs _ (.head _)).1
  obtain ⟨v,hv,rv⟩:=r.get (i:=i) (a:=vs[i]) (by simp [hi])
  refine PyProof.Rows.next_tuple_item ⟨o,hI,hS⟩ l (x:=v) (by simpa using hv) fun h' hit sb=>?_
  obtain ⟨o',g,c',d'⟩:=hit
  exact k v h' s.toks o' ⟨c',d'⟩ g sb rv
 done:=fun {F aux σ s o P E} J _ hS e k=>by
  obtain ⟨c,l,r⟩:=J.sto _ _ e
  have hI:=(J.auxs _ (.head _)).1
  have hl:=r.length
  rw [Array.length_toList] at hl
  exact PyProof.Rows.next_tuple_end hh ⟨o,hI,hS⟩ l (by simp [hl]) fun h' eb=>k h' eb
 self:=fun {s i o P E} hI hS h=>wpAny_pyIter_tupleiter ⟨o,hI,hS⟩ h
theorem it_bytes (hh:A.handled=none){l:List UInt8}{t:Tok}:ItOK cx A (l.map fun c=>V.int c.toNat) (fun ω=>True) [] I (fun i o=>o.cls=.type "bytes_iterator" ∧ o.data=.fields #[.bytes l.toArray t,.int i 0]) where
 cls:=fun i o h=>⟨_,h.1,by decide⟩
 dat:=fun i o h=>⟨_,h.2⟩
 pins:=fun q hq=>by first |(exact absurd hq List.not_mem_nil;done) |(rw [List.mem_singleton.mp hq];exact pn)
 next:=fun {F aux σ s i o P E} J _ hS e hi k=>by
  have hI:=(J.auxs _ (.head _)).1
  have hi':i<l.length:=by simpa using hi
  refine KBw.next_item (b:=l.toArray) (c:=l[i]) ⟨o,hI,hS⟩ (by simp [hi']) fun h' hit sb=>?_
  obtain ⟨o',g,c',d'⟩:=hit
  exact k _ h' _ o' ⟨c',d'⟩ g sb (by simp only [List.getElem_map];exact VR.int ..)
 done:=fun {F aux σ s o P E} J _ hS e k=>by
  have hI:=(J.auxs _ (.head _)).1
  exact KBw.next_end hh ⟨o,hI,hS⟩ (by simp) fun h' eb=>k h' eb
 self:=fun {s i o P E} hI hS h=>KBw.pyIter_self ⟨o,hI,hS⟩ h
theorem it_range (hh:A.handled=none){n:Nat}:ItOK cx A ((List.range n).map fun (i:Nat)=>V.int (i:Int)) (fun ω=>True) [] I (fun i o=>o={cls:=.type "range_iterator",dict:=none,data:=.fields #[rawInt (i:Int),rawInt ((n:Int)-i),rawInt 1],slots:=#[]}) where
 cls:=fun i o h=>by subst h;exact ⟨"range_iterator",rfl,by decide⟩
 dat:=fun i o h=>by subst h;exact ⟨_,rfl⟩
 pins:=fun q hq=>absurd hq List.not_mem_nil
 next:=fun {F aux σ s i o P E} J _ hS e hi k=>by
  have hI:=(J.auxs _ (.head _)).1
  have hi':i<n:=by simpa using hi
  rw [hS] at hI
  refine wpAny_pyNext_range_item (x:=(i:Int)) (left:=(n:Int)-i) (step:=1) hI (by lia) fun h' hit sb=>?_
  refine k _ h' _ _ ?_ hit sb (by simp only [List.getElem_map,List.getElem_range];exact VR.int ..)
  have e1:((i:Int)+1)=((i+1:Nat):Int):=by push_cast;rfl
  have e2:((n:Int)-i-1)=((n:Int)-((i+1:Nat):Int)):=by push_cast;lia
  rw [e1,e2]
 done:=fun {F aux σ s o P E} J _ hS e k=>by
  have hI:=(J.auxs _ (.head _)).1
  rw [hS] at hI
  exact wpAny_pyNext_range_end hh hI (by simp) fun h' eb=>k h' eb
 self:=fun {s i o P E} hI hS h=>wpAny_pyIter_rangeiter (by rw [hS] at hI;exact hI) h
theorem it_dict (hh:A.handled=none){d:Addr}{kk:List (PySem.Str×Value)}{kv:List (V×V)}{ep:Nat}{od:Obj}(hk:KVs kk kv)(pn:pin od=true)
  (hd:∀h:Heap,h.get? d=some od→h.DictAt (PySem.strKind cx.prog cx.w) d kk ep):ItOK cx A (dkeys kv) chk [(d,od)] I
   (fun i o=>o.cls=.type "dict_keyiterator" ∧ o.data=.fields #[.ref d,.int i 0,.int kk.length 0,.int ep 0]) where
 cls:=fun i o h=>⟨_,h.1,by decide⟩
 dat:=fun i o h=>⟨_,h.2⟩
 pins:=fun q hq=>by first |(exact absurd hq List.not_mem_nil;done) |(rw [List.mem_singleton.mp hq];exact pn)
 next:=fun {F aux σ s i o P E} J hp hS e hi k=>by
  have hI:=(J.auxs _ (.head _)).1
  have hD:=(J.auxs _ (.tail _ (hp _ (.head _)))).1
  have key:∀{kk kv},KVs kk kv→∀{i:Nat} (hi:i<(dkeys kv).length),∃x v,kk[i]? = some (Str.ofString x,v)∧(dkeys kv)[i]=.str x:=by
   intro kk kv h
   induction h with
   |nil=>intro i hi;simp [dkeys] at hi
   |cons hv hr ih=>
    intro i hi
    cases i with
    |zero=>exact ⟨_,_,rfl,rfl⟩
    |succ i=>obtain ⟨x,v,e1,e2⟩:=ih (i:=i) (by simpa [dkeys] using hi);exact ⟨x,v,by simpa using e1,by simpa [dkeys] using e2⟩
  obtain ⟨x,v,e1,e2⟩:=key hk hi
  refine wpAny_pyNext_dict_item ⟨o,hI,hS⟩ (hd _ hD) e1 fun kv' h' hkey hit sb=>?_
  obtain ⟨o',g,c',d'⟩:=hit
  obtain ⟨t,rfl⟩:=Value.isStrOf_shape hkey
  exact k _ h' s.toks o' ⟨c',d'⟩ g sb (by rw [e2];exact VR.str ..)
 done:=fun {F aux σ s o P E} J hp hS e k=>by
  have hI:=(J.auxs _ (.head _)).1
  have hD:=(J.auxs _ (.tail _ (hp _ (.head _)))).1
  refine wpAny_pyNext_dict_end hh ⟨o,hI,hS⟩ (hd _ hD) ?_ fun h' eb=>k h' eb
  have:=hk.length
  simp [dkeys,this]
 self:=fun {s i o P E} hI hS h=>wpAny_pyIter_keyiter ⟨o,hI,hS⟩ h
theorem Inv.pin (J:Inv cx F aux σ h'){d:Addr}{od:Obj}{ob:O}(e:σ d=some ob)(fx:ob.fixed=true)(nt:ob.lit=false)(g:h'.get? d=some od)(p:Internal.pin od=true):Inv cx F ((d,od)::aux) σ h' where
 ne:=J.ne
 stays:=J.stays
 ns:=J.ns
 nd:=J.nd
 auxs:=fun q hq=>by
  rcases List.mem_cons.mp hq with rfl |hq
  ·exact ⟨g,(J.sep _ _ e).2.2.resolve_right (fun z=>by rw [nt] at z;cases z),(J.sep _ _ e).1⟩
  ·exact J.auxs q hq
 sto:=J.sto
 sep:=fun b o z=>⟨(J.sep b o z).1,fun q hq y=>by
  rcases List.mem_cons.mp hq with rfl |hq
  ·subst y;rw [e] at z;cases z;exact ⟨fx,p⟩
  ·exact (J.sep b o z).2.1 q hq y,(J.sep b o z).2.2⟩
theorem iter_start (G:Good cx)(hh:A.handled=none)(J:Inv cx F aux σ s.heap){va:Value}{v:V}(ha:VR va v){R:List V→(Sto→Prop)→Prop}(q:wpIter v σ R){P:Value→Shared→Prop}{E:Value→Shared→Prop}
  (h:∀items chk pp I o S h' tk,ItOK cx A items chk pp I S→S 0 o→Inv cx F ((I,o)::(pp++aux)) σ h'→I∉(pp++aux).map (·.1)→items.length≤16777216→R items chk→P (.ref I) {s with heap:=h',toks:=tk}) :
  wpAny cx.M A (pyIter va) P E s:=by
 have kp:∀(ob:Obj) b o,s.heap.get? b=some o→(s.heap.push ob).get? b=some o:=fun ob b o e=>Heap.get?_push_of_some _ e
 cases ha with
 |bytes b t=>
  obtain ⟨hz,q⟩:=q
  refine KBw.pyIter_bytes (h _ _ [] s.heap.objs.size _ _ _ s.toks (it_bytes (t:=t) hh) ⟨rfl,by rw [Array.toArray_toList];rfl⟩ ((J.keep (kp _)).aux_new J (Heap.get?_push_size _ rfl) (Nat.le_refl _)) (J.notAux (Nat.le_refl _)) (by simpa using hz) q)
 |ref a=>
  rcases q with ⟨vs,e,hz,q⟩ |⟨m,vs,e,hz,q⟩ |⟨kv,e,hk,ne,hz,q⟩
  ·obtain ⟨c,l,r⟩:=J.sto _ _ e
   exact PyProof.Rows.iter_tuple l (h vs _ [] s.heap.objs.size _ _ _ s.toks (it_tup (a:=a) hh) ⟨rfl,rfl⟩ ((J.keep (kp _)).aux_new J (Heap.get?_push_size _ rfl) (Nat.le_refl _)) (J.notAux (Nat.le_refl _)) (by lia) q)
  ·obtain ⟨c,l,r,_⟩:=J.sto _ _ e
   exact wpAny_pyIter_list l (h vs _ [] s.heap.objs.size _ _ _ s.toks (it_list (a:=a) hh) ⟨rfl,rfl⟩ ((J.keep (kp _)).aux_new J (Heap.get?_push_size _ rfl) (Nat.le_refl _)) (J.notAux (Nat.le_refl _)) (by lia) q)
  ·obtain ⟨kk,hd,hr⟩:=(J.sto _ _ e).2.1 hk
   obtain ⟨ep,od,es,g,r1,r2,r3⟩:=hd.dictAt
   have hD:∀h:Heap,h.get? a=some od→h.DictAt (PySem.strKind cx.prog cx.w) a kk ep:=fun h g=>⟨od,es,g,r1,r2,r3⟩
   have ns:es.size≠0:=by
    have l1:=r3.2.1.length
    have l2:=hr.length
    intro z
    have l3:es.toList=[]:=by rw [Array.toList_eq_nil_iff];exact Array.eq_empty_of_size_eq_zero z
    rw [l3] at l1
    apply ne
    apply List.eq_nil_of_length_eq_zero
    rw [←l2,←l1];rfl
   have pn:Internal.pin od=true:=by unfold Internal.pin;rw [r2];exact decide_eq_true ns
   have J1:=J.pin e rfl rfl g pn
   refine wpAny_pyIter_dict (J.notSys G e) (hD _ g) (h (dkeys kv) _ [(a,od)] s.heap.objs.size _ _ _ s.toks (it_dict hh hr pn hD) ⟨rfl,by rfl⟩ ((J1.keep (kp _)).aux_new J1 (Heap.get?_push_size _ rfl) (Nat.le_refl _)) (J1.notAux (Nat.le_refl _)) ?_ q)
   simp [dkeys];lia
 |_=>exact q.elim
theorem range_start (hh:A.handled=none)(J:Inv cx F aux σ s.heap){va:Value}{v:V}(ha:VR va v){R:List V→(Sto→Prop)→Prop}(q:wpRange v R){P:Value→Shared→Prop}{E E2:Value→Shared→Prop}
  (h:∀items chk pp I o S h' tk,ItOK cx A items chk pp I S→S 0 o→Inv cx F ((I,o)::(pp++aux)) σ h'→I∉(pp++aux).map (·.1)→items.length≤16777216→R items chk→P (.ref I) {s with heap:=h',toks:=tk}) :
  wpAny cx.M A (call (.type "range") [va]) (fun r s1=>wpAny cx.M A (pyIter r) P E2 s1) E s:=by
 cases ha with
 |int i t=>
  obtain ⟨q0,q1,q⟩:=q
  refine call_range_1 ?_
  refine wpAny_pyIter_range (a:=0) (b:=i) (c:=1) (IsRange.new ..) (small_one (by decide) (by decide) (by lia) (by lia)) ?_
  have kp:∀(h:Heap) (ob:Obj) b o,h.get? b=some o→(h.push ob).get? b=some o:=fun h ob b o e=>Heap.get?_push_of_some _ e
  have J1:=J.keep (kp s.heap {cls:=.type "range",data:=.fields #[.int 0 s.toks,.int i t,.int 1 (s.toks+1)]})
  refine h _ _ [] _ _ _ _ _ (it_range (n:=i.toNat) hh) ?_ ((J1.keep (kp _ _)).aux_new J1 (Heap.get?_push_size _ rfl) (Nat.le_refl _)) (J1.notAux (Nat.le_refl _)) ?_ q
  ·rw [rangeSize_nat];simp [rawInt]
  ·simp;lia
 |_=>exact q.elim
end
end Internal
end
section
open PySem PySem.W PySem.Calls PyProof.Rows
set_option maxRecDepth 100000
namespace Internal
section
variable {cx:Cx}{ch:Ch}{N:Nat}{k:SC}{A:Around}{n:Nat}{env cenv:Env}{envs:List Env}{F:List Ns1}{aux aux' ca:List (Addr×Obj)}{m mC:PySem.Str→Option Value}{μ:List V}{σ:Sto}{s g:Shared}{Q:PX}{E:PE}{h h':Heap}{C D:Addr}{e:Addr}{cls:Value}{t:Bool}
theorem Inv.ns_new (I:Inv cx F aux σ h)(k:∀b o,h.get? b=some o→h'.get? b=some o)(n:h'.Ns C mC)(hC:h.objs.size≤C):Inv cx ((C,mC)::F) aux σ h' where
 ne:=by simp
 stays:=(I.keep k).stays
 ns:=fun p hp=>by
  rcases List.mem_cons.mp hp with rfl |hp
  ·exact ⟨n,Nat.le_trans I.big hC⟩
  ·exact (I.keep k).ns p hp
 nd:=List.nodup_cons.mpr ⟨I.notF hC,I.nd⟩
 auxs:=fun q hq=>⟨((I.keep k).auxs q hq).1,(I.auxs q hq).2.1,fun z=>by
  rcases List.mem_cons.mp z with e |z
  ·exact absurd (Heap.lt_size (I.auxs q hq).1) (Nat.not_lt.mpr (by rw [e];exact hC))
  ·exact (I.auxs q hq).2.2 z⟩
 sto:=(I.keep k).sto
 sep:=fun a o e=>⟨fun z=>by
  rcases List.mem_cons.mp z with y |z
  ·rw [y,I.old hC] at e;cases e
  ·exact (I.sep a o e).1 z,(I.sep a o e).2⟩
theorem Inv.pop (I:Inv cx ((C,mC)::F) aux σ h)(ne:F≠[])(k:∀b o,b≠C→h.get? b=some o→h'.get? b=some o):Inv cx F aux σ h' where
 ne:=ne
 stays:=fun b o e=>k b o (fun z=>by have:=base_none (I.ns _ (.head _)).2;rw [←z,e] at this;cases this) (I.stays b o e)
 ns:=fun p hp=>⟨(I.ns p (.tail _ hp)).1.at' fun o e=>k _ _ (fun z=>(List.nodup_cons.mp I.nd).1 (z▸List.mem_map.mpr ⟨p,hp,rfl⟩)) e,(I.ns p (.tail _ hp)).2⟩
 nd:=(List.nodup_cons.mp I.nd).2
 auxs:=fun q hq=>⟨k _ _ (fun z=>(I.auxs q hq).2.2 (z▸List.Mem.head _)) (I.auxs q hq).1,(I.auxs q hq).2.1,fun z=>(I.auxs q hq).2.2 (.tail _ z)⟩
 sto:=fun a o e=>(I.sto a o e).at' fun ob z=>k _ _ (fun y=>(I.sep a o e).1 (y▸List.Mem.head _)) z
 sep:=fun a o e=>⟨fun z=>(I.sep a o e).1 (.tail _ z),(I.sep a o e).2⟩
theorem Inv.swap {p q:Ns1}(I:Inv cx (p::q::F) aux σ h):Inv cx (q::p::F) aux σ h:=
 have P:List.Perm (q::p::F) (p::q::F):=List.Perm.swap ..
 have M:=P.map (·.1)
 {ne:=List.cons_ne_nil _ _
  stays:=I.stays
  ns:=fun r hr=>I.ns r (P.subset hr)
  nd:=M.nodup_iff.mpr I.nd
  auxs:=fun r hr=>⟨(I.auxs r hr).1,(I.auxs r hr).2.1,fun z=>(I.auxs r hr).2.2 (M.subset z)⟩
  sto:=I.sto
  sep:=fun a o e=>⟨fun z=>(I.sep a o e).1 (M.subset z),(I.sep a o e).2⟩}
theorem Inv.rel_ne (I:Inv cx ((C,mC)::F) aux σ h){b:Addr}(r:Rel cx F aux σ envs b):b≠C:=fun z=>
 r.elim (fun r=>(Option.isSome_iff_exists.mp r).elim fun o q=>absurd ((z▸q:cx.base.get? C=some o).symm.trans (base_none (I.ns _ (.head _)).2)) (Option.some_ne_none o)) fun r=>
 r.elim (fun r=>(Option.isSome_iff_exists.mp r).elim fun o q=>(I.sep _ _ q).1 (z▸.head _)) fun r=>
 r.elim (fun r=>(List.mem_map.mp r).elim fun q h=>(I.auxs q h.1).2.2 (h.2.symm▸z▸.head _)) fun r=>(List.nodup_cons.mp I.nd).1 (z▸r.1)
theorem hide_none {B:Heap}{b:Addr}(z:B.get? b=none):(hideAll B [C]).get? b=none:=by
 cases q:(hideAll B [C]).get? b with
 |none=>rfl
 |some o=>exact absurd ((of_hideAll _ q).symm.trans z) (Option.some_ne_none o)
theorem frames_pop {B:Heap}(keep:∀b o,b≠C→h.get? b=some o→h'.get? b=some o)(CF:C∉F.map (·.1)):∀l:List Env,(∀en∈l,∃L,en.frame=some L∧L∈F.map (·.1))→h.FunFrames B l→h'.FunFrames (hideAll B [C]) l:=by
 intro l
 induction l with
 |nil=>intro _ _;trivial
 |cons en r ih=>
  intro hl x
  obtain ⟨a,⟨L,o,x1,x2,x3,x4⟩,y⟩:=x
  exact ⟨a,⟨L,o,x1,hide_none x2,keep _ _ (fun e=>(hl en (.head _)).elim fun L' w=>CF (e▸Option.some.inj (w.1.symm.trans x1)▸w.2)) x3,x4⟩,ih (fun e he=>hl e (.tail _ he)) y⟩
theorem Fly.pop (X:Fly cx ((C,mC)::F) aux σ envs e cls t h)(ne:F≠[])(eo:EnvsOK envs F)(sb:Heap.SameBut C h h'):Fly cx F aux σ envs e cls t h':=by
 have I:=X.inv
 have keep:∀b o,b≠C→h.get? b=some o→h'.get? b=some o:=fun b o n e=>sb.extBut b o n e
 have nC:∀{b o vs},h.get? b=some o→o.data=.fields vs→b≠C:=fun {b o vs} g d z=>(I.ns _ (.head _)).1.elim fun oC x=>x.elim fun es x=>x.elim fun ep x=>by
  rw [Option.some.inj ((z▸g:h.get? C=some o).symm.trans x.1),x.2.1] at d
  cases d
 have CF:C∉F.map (·.1):=(List.nodup_cons.mp I.nd).1
 refine ⟨I.pop ne keep,X.fl.elim fun B y=>⟨hideAll B [C],fun b o q=>keep b o (fun z=>?_) (y.1 b o (of_hideAll _ q)),hide_none y.2.1,frames_pop keep CF envs (fun en he=>(eo.ok en he).2) y.2.2.1,fun b o q r=>?_,?_⟩⟩
 ·rw [z,hideAll_none [C] (.head _)] at q;exact absurd q.symm (Option.some_ne_none o)
 ·have bC:=I.rel_ne r
  exact hideAll_get [C] (y.2.2.2.1 b o ((sb.2 b bC).symm.trans q) (r.imp id fun r=>r.imp id fun r=>r.imp id fun r=>⟨.tail _ r.1,r.2⟩)) fun z=>bC (List.mem_singleton.mp z)
 ·rcases y.2.2.2.2 with ⟨a0,fl,oe,vs,T,oT,ts,he,hc,hd',h1,hnT,hTe,hT,hdT,h3⟩ |⟨tf,oe,vs,a0,he,hc,hd',h0,h1⟩
  ·exact .inl ⟨a0,fl,oe,vs,T,oT,ts,keep _ _ (nC he hd') he,hc,hd',h1,hide_none hnT,hTe,keep _ _ (nC hT hdT) hT,hdT,h3⟩
  ·exact .inr ⟨tf,oe,vs,a0,keep _ _ (nC he hd') he,hc,hd',h0,h1⟩
theorem EnvsOK.cons {p:Ns1}(eo:EnvsOK envs F):EnvsOK envs (p::F):=⟨fun en he=>⟨(eo.ok en he).1,let ⟨L,a,b⟩:=(eo.ok en he).2;⟨L,a,.tail _ b⟩⟩⟩
noncomputable def clo (env:Env)(names:List (PySem.Str×NameKind))(cs:List (PySem.Str×Addr)):List (PySem.Str×Addr):=
 names.foldl (fun cs p=>if p.2==.free then (p.1,(env.cells.lookup p.1).getD 0)::cs else cs) cs
theorem closure_clo (sc:Scope)(hc:∀x∈sc.names,x.2=.free→∃c,env.cells.lookup x.1=some c):closureFor sc env=pure (clo env sc.names []):=by
 unfold closureFor
 have:∀(names:List (PySem.Str×NameKind)) (cs:List (PySem.Str×Addr)),(∀x∈names,x.2=.free→∃c,env.cells.lookup x.1=some c)→
   (forIn names cs fun x r=>match x with
    |(name,kind)=>if (kind==NameKind.free)=true then do let a←cellOf env name;pure (ForInStep.yield ((name,a)::r)) else pure (ForInStep.yield r):Sem _)=pure (clo env names cs):=by
  intro names
  induction names with
  |nil=>intro cs _;rfl
  |cons x r ih=>
   intro cs hx
   obtain ⟨x,kd⟩:=x
   rw [List.forIn_cons]
   by_cases hk:(kd==NameKind.free)=true
   ·obtain ⟨c,hc⟩:=hx _ (.head _) (eq_of_beq hk)
    simp only [hk,if_true]
    have:cellOf env x=pure c:=by unfold cellOf;rw [hc]
    rw [this,pure_bind,pure_bind]
    have e:clo env ((x,kd)::r) cs=clo env r ((x,c)::cs):=by
     unfold clo;rw [List.foldl_cons];simp only [hk,if_true,hc,Option.getD_some]
    rw [e]
    exact ih _ fun y hy=>hx y (.tail _ hy)
   ·simp only [hk]
    rw [if_neg (by simp),pure_bind]
    have e:clo env ((x,kd)::r) cs=clo env r cs:=by
     unfold clo;rw [List.foldl_cons];simp only [hk];rfl
    rw [e]
    exact ih _ fun y hy=>hx y (.tail _ hy)
 exact (congrArg (fun t:Sem (List (PySem.Str×Addr))=>t >>= fun s=>pure s) (this sc.names [] hc)).trans (pure_bind _ _)
theorem clo_vals:∀(names:List (PySem.Str×NameKind)) (cs:List (PySem.Str×Addr)),(∀p∈cs,p.2=(env.cells.lookup p.1).getD 0)→∀p∈clo env names cs,p.2=(env.cells.lookup p.1).getD 0:=by
 intro names
 induction names with
 |nil=>intro cs h;exact h
 |cons x r ih=>
  intro cs h
  unfold clo;rw [List.foldl_cons]
  refine ih _ ?_
  split
  ·intro p hp
   rcases List.mem_cons.mp hp with rfl |hp
   ·rfl
   ·exact h p hp
  ·exact h
theorem clo_sub:∀(names:List (PySem.Str×NameKind)) (cs:List (PySem.Str×Addr)),∀p∈cs,p∈clo env names cs:=by
 intro names
 induction names with
 |nil=>intro cs p h;exact h
 |cons x r ih=>
  intro cs p h
  unfold clo;rw [List.foldl_cons]
  refine ih _ p ?_
  split
  ·exact .tail _ h
  ·exact h
theorem clo_has:∀(names:List (PySem.Str×NameKind)) (cs:List (PySem.Str×Addr)) {x},(x,NameKind.free)∈names→(x,(env.cells.lookup x).getD 0)∈clo env names cs:=by
 intro names
 induction names with
 |nil=>intro cs x h;cases h
 |cons y r ih=>
  intro cs x h
  unfold clo;rw [List.foldl_cons]
  rcases List.mem_cons.mp h with rfl |h
  ·exact clo_sub r _ _ (by simp)
  ·exact ih _ h
theorem lookup_of {β:Type}:∀{l:List (PySem.Str×β)} {x:PySem.Str} {c:β},(x,c)∈l→(∀p∈l,p.1=x→p.2=c)→l.lookup x=some c
 | [],_,_,h,_=>by cases h
 |(y,d)::r,x,c,h,k=>by
  rw [List.lookup_cons]
  by_cases q:(x==y)=true
  ·rw [q]
   have:=k (y,d) (.head _) (eq_of_beq q).symm
   simp only at this;rw [this]
  ·have q':(x==y)=false:=by simpa using q
   rw [q']
   refine lookup_of ?_ fun p hp=>k p (.tail _ hp)
   rcases List.mem_cons.mp h with z |z
   ·cases z;simp at q
   ·exact z
theorem mem_of_lookup {β:Type}:∀{l:List (PySem.Str×β)} {x:PySem.Str} {c:β},l.lookup x=some c→(x,c)∈l
 | [],_,_,h=>by cases h
 |(y,d)::r,x,c,h=>by
  rw [List.lookup_cons] at h
  by_cases q:(x==y)=true
  ·rw [q] at h;cases h;rw [eq_of_beq q];exact .head _
  ·have q':(x==y)=false:=by simpa using q
   rw [q'] at h;exact .tail _ (mem_of_lookup h)
theorem clo_lookup {names:List (PySem.Str×NameKind)}{x:PySem.Str}{c:Addr}(hx:names.lookup x=some .free)(hc:env.cells.lookup x=some c):(clo env names []).lookup x=some c:=by
 have h1:=clo_has (env:=env) names [] (mem_of_lookup hx)
 rw [hc,Option.getD_some] at h1
 refine lookup_of h1 fun p hp e=>?_
 have:=clo_vals (env:=env) names [] (fun p hp=>nomatch hp) p hp
 rw [this,e,hc];rfl
theorem lookup_pair {f:PySem.Str×NameKind→NameKind}{own:List (PySem.Str×NameKind)}{x:PySem.Str}{kd:NameKind}(h:own.lookup x=some kd):(own.map fun p=>(p.1,f p)).lookup x=some (f (x,kd)):=by
 induction own with
 |nil=>exact absurd h.symm (Option.some_ne_none kd)
 |cons p r ih=>
  cases p with |mk y d=>
  rw [List.map_cons]
  rw [List.lookup_cons] at h⊢
  cases q:x==y with
  |true=>rw [q] at h;rw [←eq_of_beq q,Option.some.inj h]
  |false=>rw [q] at h;exact ih h
theorem lookup_re {own names:List (PySem.Str×NameKind)}{x:PySem.Str}{kd:NameKind}(h:own.lookup x=some kd):(reNames names own).lookup x=some (if (kd==NameKind.free&&names.lookup x==some .cell) then .cell else kd):=by
 have:=lookup_pair (f:=fun p=>if (p.2==NameKind.free&&names.lookup p.1==some .cell) then .cell else p.2) h
 refine Eq.trans (congrArg (fun l=>List.lookup x l) ?_) this
 unfold reNames
 refine List.map_congr_left fun p ω=>?_
 cases p with |mk y d=>
 by_cases z:(d==NameKind.free&&names.lookup y==some .cell)=true
 ·show (if _ then _ else _)=(y,if _ then _ else _)
  rw [if_pos z,if_pos z]
 ·show (if _ then _ else _)=(y,if _ then _ else _)
  rw [if_neg z,if_neg z]
theorem relabel_names (sc:Scope)(hk:env.scope.kind=.function)(hn:env.scope.names=k.names):(relabel sc env).names=reNames k.names sc.names:=by
 unfold relabel reNames
 simp only [hk,Env.kindOf,hn,beq_self_eq_true,Bool.and_true]
end
end Internal
end
section
open PySem PySem.W PySem.Calls PyProof.Rows
set_option maxRecDepth 100000
namespace Internal
section
variable {cx:Cx}{ch:Ch}{N:Nat}{k:SC}{A:Around}{n:Nat}{env cenv:Env}{envs:List Env}{F:List Ns1}{aux aux' auxR ca:List (Addr×Obj)}{m mC:PySem.Str→Option Value}{μ:List V}{σ:Sto}{s g:Shared}{Q:PX}{E:PE}{h h':Heap}{C D I:Addr}{o oD:Obj}{rs:List V}
theorem one_P (G:Good3 cx){a:X}{x:String}{w:Value}{c y:PySem.Expr}{pos:Pos}{R:PX}{P:Value→Shared→Prop}(hs:isStar y=false)(ha:SndX cx ch N k a y)(hw:(x,w)∈bltTab)(kv:KeepV cx w)(o1:okGE k x c=true)
  (T:At k A N env envs F aux m ca μ)(ss:SS g s)(I:Inv cx F aux σ s.heap)(q:wpX ch a μ σ R E)
  (hc:∀v b σ' s',SS g s'→VR v b→Inv cx F aux σ' s'.heap→R b σ'→wpAny cx.M A (call w [v]) P (PEx cx F aux envs g true E) s') :
  wpAny cx.M A (eval (.Call c [y] [] pos) env) P (PEx cx F aux envs g true E) s:=
 Call_n G (blt_mem G hw) o1 T I (callWith_of (P:=cx.K.In) (by rw [star_one [] hs];rfl) kv (by
  rw [star_one [] hs]
  exact Calls.evalArgs_plain (Calls.spliced_cons (wpV (ha T ss I q) fun v s₁ b σ₁ ss₁ rb I₁ q₁=>Calls.spliced_nil ⟨I₁.K G,hc v b σ₁ s₁ ss₁ rb I₁ q₁⟩))))
noncomputable def LA (D:Addr)(oD:Obj)(rs:List V):Prop:=pin oD=false∧∃cvs,VRs cvs.toList rs∧∀h:Heap,h.get? D=some oD→h.IsList D cvs
theorem LA.of {cvs:Array Value}(l:h.IsList D cvs)(r:VRs cvs.toList rs):∃oD,h.get? D=some oD∧LA D oD rs:=by
 obtain ⟨o,ho,hc,n,hd⟩:=l
 exact ⟨o,ho,by unfold pin;rw [hd],cvs,r,fun h e=>⟨o,e,hc,n,hd⟩⟩
theorem emit_ok (J:Inv cx F ((I,o)::(D,oD)::auxR) σ s.heap)(hID:I≠D)(hDa:D∉auxR.map (·.1))(la:LA D oD rs)(hz:rs.length≤16777216){va:Value}{v:V}(r:VR va v)
  {P:Value→Shared→Prop}{E:Value→Shared→Prop}(hP:∀h' oD',LA D oD' (rs++[v])→Inv cx F ((I,o)::(D,oD')::auxR) σ h'→P .none {s with heap:=h'}) :
  wpAny cx.M A (call (.builtin "list.append") [.ref D,va]) P E s:=by
 obtain ⟨np,cvs,rv,l⟩:=la
 have hl:=l _ (J.auxs (D,oD) (by simp)).1
 have hs:=rv.length
 rw [Array.length_toList] at hs
 refine wpAny_list_append hl (fun h' l' sb=>?_) (by rw [sizeLine_eq];lia)
 obtain ⟨oD',e',la'⟩:=LA.of (rs:=rs++[v]) l' (by simpa using rv.append (.cons r .nil))
 refine hP h' oD' la' ?_
 have J1:Inv cx F ([(D,oD)]++((I,o)::auxR)) σ s.heap:=J.sub J.ne (List.Sublist.refl _) (fun q hq=>by
  simp only [List.cons_append,List.nil_append,List.mem_cons] at hq⊢
  rcases hq with r |r |r<;>simp [r])
 have J2:Inv cx F ([(D,oD')]++((I,o)::auxR)) σ h':=Inv.aux_set J1 (fun b ob hb e=>sb.extBut b ob (by simpa using hb) e) (fun q hq=>by rw [List.mem_singleton.mp hq];exact np)
  (fun q hq=>by
   simp only [List.map_cons,List.map_nil,List.mem_singleton]
   rcases List.mem_cons.mp hq with r |r
   ·rw [r];exact hID
   ·intro z;exact hDa (z▸List.mem_map.mpr ⟨q,r,rfl⟩))
  (fun q hq=>by rw [List.mem_singleton.mp hq];exact ⟨e',.inl (by simp)⟩)
 exact J2.sub J2.ne (List.Sublist.refl _) (fun q hq=>by
  simp only [List.cons_append,List.nil_append,List.mem_cons] at hq⊢
  rcases hq with r |r |r<;>simp [r])
theorem asg_name {M:Model}{x:PySem.Str}{pos:Pos}{v:Value}(J:Inv cx ((C,mC)::F) aux σ s.heap)(hC:cenv.locals=C)(hk:cenv.scope.kind=.function)(hx:cenv.kindOf x=some .local)
  {P:Unit→Shared→Prop}{E:Value→Shared→Prop}(hP:∀h' tk,Inv cx ((C,fun y=>if y=x then some v else mC y)::F) aux σ h'→P () {s with heap:=h',toks:=tk}):wpAny M A (assign (.Name x pos) cenv v) P E s:=by
 subst hC
 exact wpAny_assign_Name (wpAny_storeName_local hx (J.ns _ (.head _)).1 (fun h' n' sb=>hP h' _ (J.top (fun b o hb e=>sb.extBut b o hb e) n')) (by rw [hk];rfl))
noncomputable def nameIs (p:PySem.Expr×String):Bool:=match p.1 with |.Name s _=>sEq p.2 s |_=>false
set_option tactic.hygienic true in
theorem nameIs_of {e:PySem.Expr}{x:String}(h:nameIs (e,x)=true):∃p,e=.Name (Str.ofString x) p:=by
 unfold nameIs at h
 split at h
 ·rename_i s p q;exact ⟨p,by rw [show e=.Name s p from q,sEq_of h]⟩
 ·cases h
set_option tactic.hygienic true in
theorem asg_names {M:Model}(hC:cenv.locals=C)(hk:cenv.scope.kind=.function):∀{xs:List String} {es:List PySem.Expr} {vals:List Value} {as:List V} {mC:PySem.Str→Option Value} {s:Shared},es.length=xs.length→(es.zip xs).all nameIs=true→xs.Nodup→
  (∀x∈xs,cenv.kindOf (Str.ofString x)=some .local)→VRs vals as→as.length=xs.length→Inv cx ((C,mC)::F) aux σ s.heap→
  ∀{P:Unit→Shared→Prop} {E:Value→Shared→Prop},(∀mC' h' tk,(∀(i:Nat) x a,xs[i]? = some x→as[i]? = some a→∃v,mC' (Str.ofString x)=some v∧VR v a)→(∀y,(∀x∈xs,y≠Str.ofString x)→mC' y=mC y)→
   Inv cx ((C,mC')::F) aux σ h'→P () {s with heap:=h',toks:=tk})→wpAny M A (assignInOrder ((assignEach es cenv).map (·.2)) vals) P E s:=by
 intro xs
 induction xs with
 |nil=>
  intro es vals as mC s hl ho hn hx rv hla J P E hP
  cases es with
  |nil=>exact wpAny_pure (hP mC s.heap s.toks (fun i x a e=>by cases e) (fun y ω=>rfl) J)
  |cons=>cases hl
 |cons x xs ih=>
  intro es vals as mC s hl ho hn hx rv hla J P E hP
  cases es with
  |nil=>cases hl
  |cons e es=>
   simp only [List.zip_cons_cons,List.all_cons,Bool.and_eq_true] at ho
   obtain ⟨p,rfl⟩:=nameIs_of ho.1
   cases rv with
   |nil=>cases hla
   |cons r rv=>
    rename_i va vals a as
    show wpAny _ _ (holding vals (assign (.Name (Str.ofString x) p) cenv va) >>= fun ω=>assignInOrder ((assignEach es cenv).map (·.2)) vals) _ _ s
    refine wpAny_bind (wpAny_holding (asg_name J hC hk (hx x (.head _)) fun h' tk J'=>?_))
    refine ih (by simpa using hl) ho.2 (List.nodup_cons.mp hn).2 (fun y hy=>hx y (.tail _ hy)) rv (by simpa using hla) J' fun mC' h'' tk' e1 e2 J''=>?_
    refine hP mC' h'' tk' (fun i y b ey eb=>?_) (fun y hy=>?_) J''
    ·cases i with
     |zero=>
      simp only [List.getElem?_cons_zero,Option.some.injEq] at ey eb
      subst ey;subst eb
      have nx:∀z∈xs,Str.ofString x≠Str.ofString z:=fun z hz e=>by rw [ofString_inj e] at hn;exact (List.nodup_cons.mp hn).1 hz
      exact ⟨va,by rw [e2 _ nx];simp,r⟩
     |succ i=>exact e1 i y b (by simpa using ey) (by simpa using eb)
    ·rw [e2 y fun z hz=>hy z (.tail _ hz)]
     simp only [hy x (.head _),if_false]
theorem each_len:∀{es:List PySem.Expr} {xs:List String},es.length=xs.length→(es.zip xs).all nameIs=true→(assignEach es cenv).length=es.length∧(assignEach es cenv).findIdx? (·.1)=none
 | [],_,_,_=>⟨rfl,rfl⟩
 |e::es,[],h,_=>by cases h
 |e::es,x::xs,h,ho=>by
  simp only [List.zip_cons_cons,List.all_cons,Bool.and_eq_true] at ho
  obtain ⟨p,rfl⟩:=nameIs_of ho.1
  have:=each_len (es:=es) (xs:=xs) (by simpa using h) ho.2
  exact ⟨by show (assignEach es cenv).length+1=_;rw [this.1];rfl,by show ((false,assign (.Name (Str.ofString x) p) cenv)::assignEach es cenv).findIdx? (·.1)=none;rw [List.findIdx?_cons];simp [this.2]⟩
set_option tactic.hygienic true in
theorem bind_ok {tupled:Bool}{own:List String}{tg:PySem.Expr}(ok:okTgC tupled own tg=true)(hC:cenv.locals=C)(hk:cenv.scope.kind=.function)(hh:A.handled=none)(hn:own.Nodup)
  (hx:∀x∈own,cenv.kindOf (Str.ofString x)=some .local){va:Value}{v:V}(r:VR va v)(J:Inv cx ((C,mC)::F) aux σ s.heap){R:List V→Prop}(q:bindC own.length tupled v σ R){P:Unit→Shared→Prop}{E:Value→Shared→Prop}
  (hP:∀ws mC' h' tk,R ws→ws.length=own.length→(∀(i:Nat) x a,own[i]? = some x→ws[i]? = some a→∃v,mC' (Str.ofString x)=some v∧VR v a)→(∀y,(∀x∈own,y≠Str.ofString x)→mC' y=mC y)→Inv cx ((C,mC')::F) aux σ h'→P () {s with heap:=h',toks:=tk}) :
  wpAny cx.M A (assign tg cenv va) P E s:=by
 unfold okTgC at ok
 split at ok
 ·rename_i x pos
  simp only [Bool.and_eq_true,Bool.not_eq_true'] at ok
  obtain ⟨rfl,ok⟩:=ok
  split at ok
  ·rename_i y
   have:=sEq_of ok;subst this
   simp only [bindC,Bool.false_eq_true,if_false] at q
   refine asg_name J hC hk (hx y (.head _)) fun h' tk J'=>hP [v] _ h' tk q.2 rfl (fun i x a ex ea=>?_) (fun z hz=>if_neg (hz y (.head _))) J'
   cases i with
   |zero=>
    simp only [List.getElem?_cons_zero,Option.some.injEq] at ex ea
    subst ex;subst ea
    exact ⟨va,by simp,r⟩
   |succ i=>simp at ex
  ·cases ok
 ·rename_i es cx' pos
  simp only [Bool.and_eq_true,decide_eq_true_eq] at ok
  obtain ⟨⟨rfl,hl⟩,ho⟩:=ok
  simp only [bindC,if_true] at q
  obtain ⟨a,vs,rfl,e,hvl,q⟩:=q
  have:=r.ref';subst this
  obtain ⟨cvs,ht,rv⟩:=J.sto _ _ e
  have ho':(es.zip own).all nameIs=true:=ho
  have el:=each_len (cenv:=cenv) hl ho'
  have hs:=rv.length
  rw [Array.length_toList] at hs
  refine assign_Tuple_tuple hh ht (by rw [el.1];lia) el.2 fun h' eb=>?_
  have J':=J.keep (h':=h') (fun b ob e=>eb b ob (Nat.ne_of_lt (Heap.lt_size e)) e)
  exact asg_names (s:={s with heap:=h'}) hC hk hl ho' hn hx rv hvl J' fun mC' h'' tk e1 e2 J''=>hP vs mC' h'' tk q hvl e1 e2 J''
 ·cases ok
theorem letGo_ok {items:List V}{chk:Sto→Prop}{pp:List (Addr×Obj)}{S:Nat→Obj→Prop}{i:Nat}{tg:PySem.Expr}{v:Value}(it:ItOK cx A items chk pp I S)(hS:S i o)(hI:s.heap.get? I=some o){P:Unit→Shared→Prop}{E:Value→Shared→Prop}(hP:P () s) :
  wpAny cx.M A (letOwnedTupleGo tg (.ref I) v) P E s:=by
 obtain ⟨nm,hc,hn⟩:=it.cls i o hS
 obtain ⟨vs,hd⟩:=it.dat i o hS
 have key:wpAny cx.M A (match (Value.ref I,v) with
   |(.ref r,.ref a)=>do
    let o←load r
    match o.cls,o.data with
    |.type n,.fields vs=>if (ownedNames.contains n&&vs[0]?==some (rawInt a))=true then do rule "for.unpacks-the-owned-tuple";updateField r 0 .none else pure ()
    |_,_=>pure ()
   |_=>pure ()) P E s:=by
  cases v with
  |ref a=>
   refine wpAny_bind (wpAny_load hI ?_)
   rw [hc,hd]
   show wpAny _ _ (if (ownedNames.contains nm&&vs[0]?==some (rawInt a))=true then _ else _) _ _ _
   rw [if_neg (by rw [hn];simp)]
   exact wpAny_pure hP
  |_=>exact wpAny_pure hP
 cases tg<;>first |exact wpAny_pure hP |exact key
theorem tests_no {fs:List PySem.Expr}{P:Bool→Shared→Prop}{E:Value→Shared→Prop}{M:Model}(hP:P false s) :
  wpAny M A (forIn fs false fun c r=>if r=true then do let ok←isTrue c env (eval c env);pure (ForInStep.yield ok) else pure (ForInStep.yield r)) P E s:=by
 induction fs with
 |nil=>exact wpAny_pure hP
 |cons f fs ih=>
  simp only [List.forIn_cons,Bool.false_eq_true,if_false]
  exact wpAny_bind (wpAny_pure ih)
theorem tests_ok {ifs:List T}{fs:List PySem.Expr}(h:SndTs cx ch N k ifs fs):∀{Q:Bool→Sto→Prop} {σ:Sto} {s:Shared},At k A N env envs F aux m ca μ→SS g s→Inv cx F aux σ s.heap→wpAnd ch ifs μ σ Q E→
  wpAny cx.M A (forIn fs true fun c r=>if r=true then do let ok←isTrue c env (eval c env);pure (ForInStep.yield ok) else pure (ForInStep.yield r)) (PBt cx F aux g Q) (PEx cx F aux envs g true E) s:=by
 induction h with
 |nil=>exact fun T ss J q=>wpAny_pure ⟨_,ss,J,q⟩
 |cons ht _ ih=>
  intro Q σ s T ss J q
  simp only [List.forIn_cons,if_true]
  refine wpAny_bind (wpAny_bind (wpB (ht T ss J q) fun b s₁ σ₁ ss₁ J₁ q=>wpAny_pure ?_))
  cases b with
  |true=>exact ih T ss₁ J₁ q
  |false=>exact tests_no ⟨σ₁,ss₁,J₁,q⟩
end
end Internal
end
section
open PySem PySem.W PySem.Calls PyProof.Rows
set_option maxRecDepth 100000
namespace Internal
section
variable {cx:Cx}{ch:Ch}{N:Nat}{k:SC}{A:Around}{n:Nat}{env cenv:Env}{envs:List Env}{F:List Ns1}{aux aux0 auxR ca:List (Addr×Obj)}{m mC:PySem.Str→Option Value}{μ:List V}{σ:Sto}{s g:Shared}{Q:PX}{E:PE}{h h':Heap}{C D I:Addr}{o oD:Obj}{rs:List V}
noncomputable def EC (cx:Cx)(C:Addr)(F:List Ns1)(aux0:List (Addr×Obj))(envs:List Env)(g:Shared)(E:PE)(v:Value)(s':Shared):Prop:=∃mC,PEx cx ((C,mC)::F) aux0 envs g true E v s'
theorem EC.of {aux:List (Addr×Obj)}{v:Value}{s':Shared}(x:PEx cx ((C,mC)::F) aux envs g true E v s')(a:∀q∈aux0,q∈aux):EC cx C F aux0 envs g E v s':=⟨mC,x.sub (by simp) (List.Sublist.refl _) a⟩
theorem wpM {α:Type}{M:Model}{t:Sem α}{P P':α→Shared→Prop}{E E':Value→Shared→Prop}(h:wpAny M A t P E s)(k:∀a s,P a s→P' a s)(ke:∀v s,E v s→E' v s):wpAny M A t P' E' s:=wpAny_mono h k ke
inductive CSt (cx:Cx)(C:Addr)(F:List Ns1)(auxR:List (Addr×Obj))(I:Addr)(o':Obj)(D:Addr)(g:Shared)(Bd:List V→Prop)(Mi:(PySem.Str→Option Value)→Prop)(kont:List V→Sto→Prop)(s:Shared):Prop
 |mk (mC:PySem.Str→Option Value) (oD:Obj) (accs:List V) (σ:Sto):SS g s→LA D oD accs→Bd accs→Mi mC→Inv cx ((C,mC)::F) ((I,o')::(D,oD)::auxR) σ s.heap→kont accs σ→CSt cx C F auxR I o' D g Bd Mi kont s
inductive CLI (cx:Cx)(C:Addr)(F:List Ns1)(auxR:List (Addr×Obj))(I D:Addr)(g:Shared)(Bd:Nat→List V→Prop)(Mi:(PySem.Str→Option Value)→Prop)(S:Nat→Obj→Prop)(len:Nat)(W:Nat→List V→Sto→Prop)(n:Nat)(s:Shared):Prop
 |mk (i:Nat) (o:Obj):n=len-i→i≤len→S i o→CSt cx C F auxR I o D g (Bd i) Mi (W i) s→CLI cx C F auxR I D g Bd Mi S len W n s
theorem comp_loop {el:PySem.Expr}{gens:List Comprehension}{sc:Scope}{pos ip:Pos}{depth:Nat}{TT:Value→Sem Fin}{items:List V}{chk:Sto→Prop}{pp:List (Addr×Obj)}{S:Nat→Obj→Prop}{env':Env}{outer:List Env}{L:Addr}{R:Result→Shared→Prop}
  {stp:V→List V→Sto→(List V→Sto→Prop)→Prop}{Bd:Nat→List V→Prop}{Mi:(PySem.Str→Option Value)→Prop}{Q:List V→Sto→Prop}
  (hT:compTurn (.ListComp el gens sc pos) depth (.ref I) (.ref D) cenv=(standAt ip >>= fun ω=>pyNext (.ref I) >>= fun r=>match r with |none=>pure (.done .next) |some v=>TT v))
  (hes:envs=env'::outer)(hfr:A.frames=some envs)(hf:env'.frame=some L)(hf':cenv.frame=some L)
  (it:ItOK cx A items chk pp I S)(hpp:∀q∈pp,q∈auxR)(hID:I≠D)(hIa:I∉auxR.map (·.1))
  (step:∀i o' (s':Shared) mC oD accs σ' v (hi:i<items.length),VR v items[i]→S (i+1) o'→SS g s'→LA D oD accs→Bd i accs→Mi mC→Inv cx ((C,mC)::F) ((I,o')::(D,oD)::auxR) σ' s'.heap→∀kont:List V→Sto→Prop,stp items[i] accs σ' kont→
   wpAny cx.M A (TT v) (fun fin s''=>fin=.again (.compLoop (.ListComp el gens sc pos) depth (.ref I) (.ref D) cenv)∧CSt cx C F auxR I o' D g (Bd (i+1)) Mi kont s'')
    (EC cx C F aux0 envs g E) s')
  (hok:∀(s':Shared) mC oD accs σ',SS g s'→LA D oD accs→Mi mC→Inv cx ((C,mC)::F) ((D,oD)::auxR) σ' s'.heap→Q accs σ'→R (.ok .next) s')
  (her:∀v s',EC cx C F aux0 envs g E v s'→R (.error v) s')
  {accs:List V}(hS:S 0 o)(ss:SS g s)(la:LA D oD accs)(bd:Bd 0 accs)(mi:Mi mC)(J:Inv cx ((C,mC)::F) ((I,o)::(D,oD)::auxR) σ s.heap)(q:wpCL chk stp items accs σ Q) :
  codeAny cx.M A (.compLoop (.ListComp el gens sc pos) depth (.ref I) (.ref D) cenv) R s:=by
 subst hes
 refine codeAny_loop rfl (CLI cx C F auxR I D g Bd Mi S items.length fun i accs σ=>wpCL chk stp (items.drop i) accs σ Q) ?_ items.length
  ⟨0,o,rfl,Nat.zero_le _,hS,mC,oD,accs,σ,ss,la,bd,mi,J,q⟩
 intro n s z
 cases z with |mk i o hn hi hS z=>
 subst hn
 cases z with |mk mC oD accs σ ss la bd mi J q=>
 show wpAny _ A ((compTurn (.ListComp el gens sc pos) depth (.ref I) (.ref D) cenv).onRaise (fun x=>do noteFrame x cenv;theTreesLotGoes x)) _ _ s
 refine wpAny_noted ?_
 rw [hT]
 have hpp':∀oD,∀q∈pp,q∈(D,oD)::auxR:=fun oD q hq=>.tail _ (hpp q hq)
 have hIa':∀oD,I∉((D,oD)::auxR).map (·.1):=fun oD z=>by
  rcases List.mem_cons.mp z with y |y
  ·exact hID y
  ·exact hIa y
 have err:∀v s',EC cx C F aux0 (env'::outer) g E v s'→notedBy cx.M A cenv (fun x s'=>R (.error x) s') v s':=fun v s' ⟨mC,x⟩=>
  x.noted hfr hf hf' fun v s' y=>her v s' ⟨mC,y⟩
 refine wpAny_bind (wpAny_standAt (wpAny_bind ?_))
 by_cases hlt:i<items.length
 ·rw [List.drop_eq_getElem_cons hlt] at q
  obtain ⟨hc,q⟩:=q
  refine it.next J (hpp' oD) hS hc hlt fun v h' tk o' hS' e' sb rv=>?_
  have J':=J.it_next (hIa' oD) (it.dat _ _ hS) e' sb
  refine wpM (step i o' {s with heap:=h',toks:=tk} mC oD accs σ v hlt rv hS' (ss.trans ⟨rfl,rfl,rfl⟩) la bd mi J' _ q) (fun fin s₁ p=>?_) err
  rw [p.1]
  exact ⟨rfl,items.length-(i+1),Nat.sub_lt_sub_left hlt (Nat.lt_succ_self i),.mk (i+1) o' rfl hlt hS' p.2⟩
 ·have:i=items.length:=Nat.le_antisymm hi (Nat.le_of_not_lt hlt)
  subst this
  rw [List.drop_length] at q
  obtain ⟨hc,q⟩:=q
  refine it.done J (hpp' oD) hS hc fun h' eb=>?_
  exact wpAny_pure (hok _ mC oD accs σ (ss.trans ⟨rfl,rfl,rfl⟩) la mi (J.it_done (hIa' oD) (it.dat _ _ hS) eb) q)
theorem turn_list (el tg iter:PySem.Expr)(ifs:List PySem.Expr)(sc:Scope)(pos:Pos)(it acc:Value)(env:Env) :
  compTurn (.ListComp el [⟨tg,iter,ifs,0⟩] sc pos) 0 it acc env=(standAt iter.pos >>= fun ω=>pyNext it >>= fun r=>match r with
   |none=>pure (.done .next)
   |some v=>letOwnedTupleGo tg it v >>= fun ω=>assign tg env v >>= fun ω=>
     (forIn ifs true fun c r=>if r=true then do let ok←isTrue c env (eval c env);pure (ForInStep.yield ok) else pure (ForInStep.yield r)) >>= fun ok=>
     (if ok=true then ((eval el env >>= fun x=>call (.builtin "list.append") [acc,x] >>= fun ω=>pure ()) >>= fun ω=>again (.compLoop (.ListComp el [⟨tg,iter,ifs,0⟩] sc pos) 0 it acc env))
      else again (.compLoop (.ListComp el [⟨tg,iter,ifs,0⟩] sc pos) 0 it acc env))):=by rfl
theorem turn_in (el t1 i1 t2 i2:PySem.Expr)(sc:Scope)(pos:Pos)(it acc:Value)(env:Env) :
  compTurn (.ListComp el [⟨t1,i1,[],0⟩,⟨t2,i2,[],0⟩] sc pos) 1 it acc env=(standAt i2.pos >>= fun ω=>pyNext it >>= fun r=>match r with
   |none=>pure (.done .next)
   |some v=>letOwnedTupleGo t2 it v >>= fun ω=>assign t2 env v >>= fun ω=>
     (eval el env >>= fun x=>call (.builtin "list.append") [acc,x] >>= fun ω=>pure ()) >>= fun ω=>
     again (.compLoop (.ListComp el [⟨t1,i1,[],0⟩,⟨t2,i2,[],0⟩] sc pos) 1 it acc env)):=by rfl
theorem turn_out (el t1 i1 t2 i2:PySem.Expr)(sc:Scope)(pos:Pos)(it acc:Value)(env:Env) :
  compTurn (.ListComp el [⟨t1,i1,[],0⟩,⟨t2,i2,[],0⟩] sc pos) 0 it acc env=(standAt i1.pos >>= fun ω=>pyNext it >>= fun r=>match r with
   |none=>pure (.done .next)
   |some v=>letOwnedTupleGo t1 it v >>= fun ω=>assign t1 env v >>= fun ω=>
     eval i2 env >>= fun x=>standAt i2.pos >>= fun ω=>foldedSetIterable i2 env x >>= fun x=>holding [x] (pyIter x) >>= fun jt=>
      runOwn (.compStart (.ListComp el [⟨t1,i1,[],0⟩,⟨t2,i2,[],0⟩] sc pos) 1 jt acc env) env >>= fun ω=>
     again (.compLoop (.ListComp el [⟨t1,i1,[],0⟩,⟨t2,i2,[],0⟩] sc pos) 0 it acc env)):=by rfl
theorem own2 {x1 x2:String}{a1 a2:V}{P:String→V→Prop}(h1:P x1 a1)(h2:a2≠.unb→P x2 a2)(i:Nat)(y:String)(a:V)(hy:[x1,x2][i]? = some y)(ha:[a1,a2][i]? = some a)(hu:a≠.unb):P y a:=by
 match i with
 |0=>rw [←Option.some.inj hy,←Option.some.inj ha];exact h1
 |1=>rw [←Option.some.inj ha] at hu⊢;rw [←Option.some.inj hy];exact h2 hu
 |_+2=>exact absurd hy.symm (Option.some_ne_none y)
structure CompAt (k kc:SC)(A:Around)(N:Nat)(env cenv:Env)(envs:List Env)(F:List Ns1)(ca:List (Addr×Obj))(own:List String)(C:Addr)(caps:List V):Prop where
 names:cenv.scope.names=kc.names
 kind:cenv.scope.kind=.function
 glob:cenv.globals=mainGlobals
 blt:cenv.builtins=builtinsNs
 frm:∃env' outer L,envs=env'::outer∧env'.frame=some L∧cenv.frame=some L
 stk:A.frames=some envs
 eo:EnvsOK envs F
 ao:AOK A N
 loc:cenv.locals=C
 nd:kc.nm.Nodup
 len:kc.nm.length=own.length+caps.length
 ownN:∀(i:Nat) x,own[i]? = some x→kc.nm[i]? = some x
 ownK:∀x∈own,cenv.kindOf (Str.ofString x)=some .local
 capN:∀(j:Nat) x a,kc.nm[own.length+j]? = some x→caps[j]? = some a→(cenv.kindOf (Str.ofString x)=some .cell∨cenv.kindOf (Str.ofString x)=some .free)∧∃c o ov,cenv.cells.lookup (Str.ofString x)=some c∧(c,o)∈ca∧o.data=.cell ov∧LV ov a
theorem CompAt.ownD {kc:SC}{own:List String}{caps:List V}(x:CompAt k kc A N env cenv envs F ca own C caps):own.Nodup:=by
 have h:own=kc.nm.take own.length:=by
  apply List.ext_getElem?
  intro i
  by_cases hi:i<own.length
  ·rw [List.getElem?_eq_getElem hi]
   have:=x.ownN i _ (List.getElem?_eq_getElem hi)
   rw [List.getElem?_take,if_pos hi,this]
  ·rw [List.getElem?_take,if_neg hi,List.getElem?_eq_none (by lia)]
 rw [h];exact (List.take_sublist _ _).nodup x.nd
theorem CompAt.at' {kc:SC}{own:List String}{caps:List V}(x:CompAt k kc A N env cenv envs F ca own C caps){ws:List V}(hw:ws.length=own.length)(hc:∀q∈ca,q∈aux)
  (ho:∀(i:Nat) y a,own[i]? = some y→ws[i]? = some a→a≠.unb→∃v,mC (Str.ofString y)=some v∧VR v a):At kc A N cenv envs ((C,mC)::F) aux mC ca (ws++caps) where
 names:=x.names
 kind:=x.kind
 glob:=x.glob
 blt:=x.blt
 frm:=x.frm
 stk:=x.stk
 eo:=x.eo.cons
 ao:=x.ao
 top:=⟨F,by rw [x.loc]⟩
 cas:=hc
 loc:={
  len:=by rw [x.len,List.length_append,hw]
  nd:=x.nd
  at_:=fun i y a hy ha=>by
   by_cases hi:i<own.length
   ·left
    have h1:=x.ownN i _ (List.getElem?_eq_getElem hi)
    rw [hy] at h1;cases h1
    have h2:own[i]? = some own[i]:=List.getElem?_eq_getElem hi
    rw [List.getElem?_append_left (by lia)] at ha
    refine ⟨x.ownK _ (List.getElem_mem hi),?_⟩
    by_cases hu:a=.unb
    ·exact .inl hu
    ·exact .inr (ho i _ a h2 ha hu)
   ·right
    have e:i=own.length+(i-own.length):=by lia
    rw [List.getElem?_append_right (by lia),hw] at ha
    rw [e] at hy
    exact x.capN _ _ _ hy ha}
end
end Internal
end
section
open PySem PySem.W PySem.Calls PyProof.Rows
set_option maxRecDepth 100000
namespace Internal
section
variable {cx:Cx}{ch:Ch}{N:Nat}{k:SC}{A:Around}{n:Nat}{env cenv:Env}{envs:List Env}{F:List Ns1}{aux aux0 auxR ca pp:List (Addr×Obj)}{m mC:PySem.Str→Option Value}{μ:List V}{σ:Sto}{s g:Shared}{Q:PX}{E:PE}{h h':Heap}{C D I:Addr}{o oD:Obj}{rs:List V}
noncomputable def isSet:PySem.Expr→Bool
 |.Set ..=>true
 |_=>false
theorem folded {e:PySem.Expr}(ok:isSet e=false)(v:Value):foldedSetIterable e env v=pure v:=by
 cases e<;>first |rfl |cases ok
variable (cx ch N k) in
inductive ItS:Bool→X→PySem.Expr→Prop
 |it {x e}:isSet e=false→SndX cx ch N k x e→ItS false x e
 |rng {x c y p}:okGE k "range" c=true→isStar y=false→SndX cx ch N k x y→ItS true x (.Call c [y] [] p)
theorem ItS.set {b x e}(h:ItS cx ch N k b x e):isSet e=false:=by cases h<;>first |assumption |rfl
theorem capsAt {nms:List String}{n:Nat}{caps:List Nat}(hc:capsOK k nms n caps=true){j:Nat}{x:String}(hx:(nms.drop n)[j]? = some x):∃p,caps[j]? = some p∧k.nm[p]? = some x:=by
 have h1:(nms.drop n).length=caps.length:=eq_of_beq (an1 hc)
 have hj':j<caps.length:=h1▸(List.getElem?_eq_some_iff.mp hx).1
 have hz:((nms.drop n).zip caps)[j]? = some (x,caps[j]):=List.getElem?_zip_eq_some.mpr ⟨hx,List.getElem?_eq_getElem hj'⟩
 have t:=List.all_eq_true.mp (an2 hc) _ (List.mem_of_getElem? hz)
 refine ⟨caps[j],List.getElem?_eq_getElem hj',?_⟩
 revert t
 show (match k.nm[caps[j]]? with |some y=>y==x |none=>false)=true→_
 cases k.nm[caps[j]]? with
 |none=>exact fun t=>absurd t Bool.false_ne_true
 |some y=>exact fun t=>congrArg some (eq_of_beq t)
theorem cap_of (T:At k A N env envs F aux m ca μ){nms:List String}{n:Nat}{caps:List Nat}{sc:Scope}(o4:((nms.drop n).all fun x=>sc.names.lookup (Str.ofString x)==some .free&&(k.names.lookup (Str.ofString x)==some .cell||k.names.lookup (Str.ofString x)==some .free))=true)(hc:capsOK k nms n caps=true)
  {j:Nat}{x:String}(hx:(nms.drop n)[j]? = some x):∃p,caps[j]? = some p∧sc.names.lookup (Str.ofString x)=some .free∧∃c o ov,env.cells.lookup (Str.ofString x)=some c∧(c,o)∈ca∧o.data=.cell ov∧LV ov (μ.getD p .unb):=by
 have h3:=List.all_eq_true.mp o4 x (List.mem_of_getElem? hx)
 refine (capsAt hc hx).imp fun p h=>⟨h.1,eq_of_beq (an1 h3),?_⟩
 have hp:p<μ.length:=by rw [T.loc.len];exact (List.getElem?_eq_some_iff.mp h.2).1
 have hm:μ[p]? = some (μ.getD p .unb):=by rw [List.getD_eq_getElem?_getD,List.getElem?_eq_getElem hp];rfl
 refine (T.loc.at_ p x _ h.2 hm).elim (fun q=>?_) fun r=>r.2
 have q:k.names.lookup (Str.ofString x)=some .local:=T.names▸q.1
 exact absurd (an2 h3) (by rw [q];exact Bool.false_ne_true)
structure CompOK (k:SC)(A:Around)(N:Nat)(env:Env)(envs:List Env)(F:List Ns1)(ca:List (Addr×Obj))(sc:Scope)(nms own:List String)(caps:List V):Prop where
 clo:closureFor sc env=pure (clo env sc.names [])
 nc:∀y∈sc.names,y.2≠.cell
 kind:sc.kind=.function
 loc:∀x∈sc.names,x.2=.local→sc.names.lookup x.1=some .local
 at_:∀C,CompAt k ⟨nms,reNames k.names sc.names⟩ A N env (compEnvC sc (Internal.clo env sc.names []) C env) envs F ca own C caps
theorem comp_at (T:At k A N env envs F aux m ca μ){nms:List String}{n:Nat}{caps:List Nat}{sc:Scope}(hn:n≤nms.length)(ok:okScope k.names sc (nms.take n) (nms.drop n)=true)(hc:capsOK k nms n caps=true) :
  CompOK k A N env envs F ca sc nms (nms.take n) (caps.map fun i=>μ.getD i .unb):=by
 have o5:=an2 ok
 have ok:=an1 ok
 have o4:=an2 ok
 have ok:=an1 ok
 have o3:=an2 ok
 have ok:=an1 ok
 have o2:=an2 ok
 have ok:=an1 ok
 have ln:(nms.take n).length=n:=List.length_take_of_le hn
 have hnm:∀C,(compEnvC sc (clo env sc.names []) C env).scope.names=reNames k.names sc.names:=fun C=>relabel_names sc T.kind T.names
 exact {
  clo:=closure_clo sc fun x hx hf=>by
   have:=(Bool.or_eq_true_iff.mp (List.all_eq_true.mp o5 x hx)).resolve_left fun z=>bne_iff_ne.mp z hf
   refine (List.any_eq_true.mp this).elim fun y h=>(List.mem_iff_getElem?.mp h.1).elim fun j hj=>(cap_of T o4 hc hj).elim fun p h'=>h'.2.2.imp fun c h'=>?_
   exact h'.elim fun o h'=>h'.elim fun ov h'=>by rw [sEq_of h.2];exact h'.1
  nc:=fun y hy=>bne_iff_ne.mp (an1 (List.all_eq_true.mp o2 y hy))
  kind:=eq_of_beq (an1 ok)
  loc:=fun x hx e=>eq_of_beq ((Bool.or_eq_true_iff.mp (an2 (List.all_eq_true.mp o2 x hx))).resolve_left fun z=>bne_iff_ne.mp z e)
  at_:=fun C=>{
   names:=hnm C
   kind:=eq_of_beq (an1 ok)
   glob:=T.glob
   blt:=T.blt
   frm:=T.frm
   stk:=T.stk
   eo:=T.eo
   ao:=T.ao
   loc:=rfl
   nd:=by have:=of_decide_eq_true (an2 ok);rw [List.take_append_drop] at this;exact this
   len:=by
    have:=eq_of_beq (an1 hc)
    rw [List.length_drop] at this
    show nms.length=(nms.take n).length+(caps.map _).length
    rw [ln,List.length_map,←this];exact (Nat.add_sub_of_le hn).symm
   ownN:=fun i x hx=>by
    have hi:=(List.getElem?_eq_some_iff.mp hx).1
    rw [ln] at hi
    rw [List.getElem?_take,if_pos hi] at hx
    exact hx
   ownK:=fun x hx=>by
    unfold Env.kindOf;rw [hnm]
    exact lookup_re (names:=k.names) (eq_of_beq (List.all_eq_true.mp o3 x hx))
   capN:=fun j x a hx ha=>by
    have hx:nms[(nms.take n).length+j]? = some x:=hx
    rw [ln] at hx
    refine (cap_of T o4 hc (by rw [List.getElem?_drop];exact hx)).elim fun p h=>?_
    rw [List.getElem?_map,h.1] at ha
    refine ⟨?_,h.2.2.imp fun c q=>q.imp fun o q=>q.imp fun ov q=>⟨clo_lookup h.2.1 q.1,q.2.1,q.2.2.1,Option.some.inj ha▸q.2.2.2⟩⟩
    unfold Env.kindOf;rw [hnm,lookup_re (names:=k.names) h.2.1]
    cases (NameKind.free==NameKind.free&&k.names.lookup (Str.ofString x)==some .cell)
    ·exact .inr rfl
    ·exact .inl rfl}}
theorem wpVE {M:Model}{t:Sem Value}{P':Value→Shared→Prop}{E' E'':Value→Shared→Prop}(h:wpAny M A t (PV cx F aux g Q) E'' s)(ke:∀v s,E'' v s→E' v s)(k:∀v s₁ a σ₁,SS g s₁→VR v a→Inv cx F aux σ₁ s₁.heap→Q a σ₁→P' v s₁):wpAny M A t P' E' s:=
 wpV (wpAny_mono h (fun ω ω p=>p) ke) k
theorem wpBE {M:Model}{t:Sem Bool}{P':Bool→Shared→Prop}{E' E'':Value→Shared→Prop}{Q:Bool→Sto→Prop}(h:wpAny M A t (PBt cx F aux g Q) E'' s)(ke:∀v s,E'' v s→E' v s)(k:∀v s₁ σ₁,SS g s₁→Inv cx F aux σ₁ s₁.heap→Q v σ₁→P' v s₁):wpAny M A t P' E' s:=
 wpB (wpAny_mono h (fun ω ω p=>p) ke) k
theorem Inv.auxS {aux':List (Addr×Obj)}(J:Inv cx F aux σ h)(a:∀q∈aux',q∈aux):Inv cx F aux' σ h:=J.sub J.ne (List.Sublist.refl _) a
theorem in_pp {X Y:Addr×Obj}:∀q∈aux,q∈X::Y::(pp++aux):=fun ω h=>.tail _ (.tail _ (List.mem_append_right _ h))
theorem dropP {X:Addr×Obj}:∀q∈X::aux,q∈X::(pp++aux):=List.forall_mem_cons.mpr ⟨.head _,fun ω h=>.tail _ (List.mem_append_right _ h)⟩
theorem swapD {X Y:Addr×Obj}{l:List (Addr×Obj)}:∀q∈Y::X::l,q∈X::Y::l:=List.forall_mem_cons.mpr ⟨.tail _ (.head _),List.forall_mem_cons.mpr ⟨.head _,fun ω h=>.tail _ (.tail _ h)⟩⟩
theorem len_snoc {α:Type}{l:List α}{a:α}{i:Nat}(h:l.length≤i):(l++[a]).length≤i+1:=by rw [List.length_append];exact Nat.succ_le_succ h
theorem not_app {l:List (Addr×Obj)}(h:D∉(pp++l).map (·.1)):D∉l.map (·.1):=fun z=>h (by rw [List.map_append];exact List.mem_append_right _ z)
theorem start_ok {el:PySem.Expr}{g1:Comprehension}{gs:List Comprehension}{sc:Scope}{pos:Pos}{cl:List (PySem.Str×Addr)}{items:List V}{chk:Sto→Prop}{S:Nat→Obj→Prop}{RR:Value→Addr→Result→Shared→Prop}{E':Value→Shared→Prop}
  (ha:g1.is_async=0)(hcell:∀y∈sc.names,y.2≠.cell)(hkind:sc.kind=.function)(it:ItOK cx A items chk pp I S)(hS:S 0 o)(J:Inv cx F ((I,o)::auxR) σ s.heap)
  (body:∀D C oD mC (s₄:Shared),SS s s₄→LA D oD []→Inv cx ((C,mC)::F) ((I,o)::(D,oD)::auxR) σ s₄.heap→I≠D→D∉auxR.map (·.1)→
   codeAny cx.M A (.compLoop (.ListComp el (g1::gs) sc pos) 0 (.ref I) (.ref D) (compEnvC sc cl C env)) (RR (.ref D) C) s₄) :
  wpAny cx.M A (newList []) (fun acc s₃=>wpAny cx.M A (newFunctionEnv sc env.globals cl [] env.qual none .none (some env)) (fun cenv s₄=>
   codeAny cx.M A (.compStart (.ListComp el (g1::gs) sc pos) 0 (.ref I) acc {cenv with scope:=relabel sc env}) (RR acc cenv.locals) s₄) E' s₃) E' s:=by
 obtain ⟨tg,iter,ifs,asy⟩:=g1
 simp only at ha
 subst ha
 refine wpAny_newObj_type (wpAny_newFunctionEnv hcell (by intro y hy;simp at hy) (fun h₁ hns₁ hsb₁=>?_) hkind)
 dsimp only at hns₁ hsb₁⊢
 generalize hH2:s.heap.push {cls:=.type "list",dict:=none,data:=.seq ([]:List Value).toArray}=H2 at hns₁ hsb₁⊢
 have k1:∀b o,s.heap.get? b=some o→H2.get? b=some o:=fun b o e=>hH2▸Heap.get?_push_of_some _ e
 have hl:H2.IsList s.heap.objs.size #[]:=⟨_,hH2▸Heap.get?_push_size _ rfl,rfl,0,rfl⟩
 obtain ⟨oD,eD,la⟩:=LA.of (rs:=[]) hl .nil
 have J1:=(J.keep k1).aux_new J eD (Nat.le_refl _)
 have k2:∀b o,H2.get? b=some o→h₁.get? b=some o:=fun b o e=>hsb₁.extBut b o (Nat.ne_of_lt (Heap.lt_size e)) (Heap.get?_push_of_some _ e)
 have J2:=J1.ns_new k2 hns₁ (Nat.le_refl _)
 have nD:=J.notAux (Nat.le_refl _)
 have hID:I≠s.heap.objs.size:=fun z=>nD (by rw [←z];exact .head _)
 have J3:=J2.auxS (swapD (X:=(s.heap.objs.size,oD)) (Y:=(I,o)) (l:=auxR))
 have loop:=fun (s₄:Shared) (ss:SS s s₄) (J:Inv cx ((H2.objs.size,fun x=>([]:List (PySem.Str×Value)).reverse.lookup x)::F) ((I,o)::(s.heap.objs.size,oD)::auxR) σ s₄.heap)=>body s.heap.objs.size H2.objs.size oD _ s₄ ss la J hID (fun z=>nD (.tail _ z))
 exact codeAny_compStart_list (loop _ ⟨rfl,rfl,rfl⟩ J3) (it.self (J3.auxs _ (.head _)).1 hS (loop _ ⟨rfl,rfl,rfl⟩ J3))
theorem post_err {C:Addr}{use:Option (Value→Sem Unit)}{P:Value→Shared→Prop}{acc v:Value}(eo:EnvsOK envs F)(ne:F≠[]){s':Shared}(x:EC cx C F aux envs g E v s'):compPost cx.M A (PEx cx F aux envs g true E) use P acc C (.error v) s':=by
 obtain ⟨mC,e,c,σ',rfl,ss,f,hc,q⟩:=x
 have key:∃m,s'.heap.Ns C m∧∀h',Heap.SameBut C s'.heap h'→∀cenv:Env,cenv.locals=C→wpAny cx.M A (passOn "comprehension.variables-let-go" (.ref e) cenv:Sem Value) (fun ω ω=>False) (PEx cx F aux envs g true E) {s' with heap:=h'}:=
  ⟨mC,(f.inv.ns _ (.head _)).1,fun h' sb cenv ω=>passOn_any (s:={s' with heap:=h'}) (f.pop ne eo sb) fun h'' Y=>⟨e,c,σ',rfl,ss.trans ⟨rfl,rfl,rfl⟩,Y,hc,q⟩⟩
 cases use<;>exact key
theorem comp_any (G:Good3 cx){it elt:X}{ifs:List T}{n:Nat}{tupled rng:Bool}{nms:List String}{caps:List Nat}{el tg its:PySem.Expr}{fs:List PySem.Expr}{sc:Scope}{pos fpos:Pos}
  (o0:n≤nms.length)(o1:okScope k.names sc (nms.take n) (nms.drop n)=true)(o2:capsOK k nms n caps=true)(hit:ItS cx ch N k rng it its)(o4:okTgC tupled (nms.take n) tg=true)(hifs:SndTs cx ch N (inC k nms sc) ifs fs)(helt:SndX cx ch N (inC k nms sc) elt el)
  (T:At k A N env envs F aux m ca μ)(ss:SS g s)(J:Inv cx F aux σ s.heap)(q:wpX ch (.comp n tupled rng it ifs elt nms caps) μ σ Q E)
  {use:Option (Value→Sem Unit)}{P:Value→Shared→Prop}
  (hfin:∀(s':Shared) D C mC oD rs σ',SS g s'→LA D oD rs→Inv cx ((C,mC)::F) ((D,oD)::aux) σ' s'.heap→D∉aux.map (·.1)→alloc (.list false rs) σ' Q→compPost cx.M A (PEx cx F aux envs g true E) use P (.ref D) C (.ok .next) s') :
  wpAny cx.M A (comprehension (.ListComp el [⟨tg,its,fs,0⟩] sc pos) sc env fpos (newList []) false (firstIter [⟨tg,its,fs,0⟩] env) use) P (PEx cx F aux envs g true E) s:=by
  have CA:=comp_at T o0 o1 o2
  have hln:(nms.take n).length=n:=List.length_take_of_le o0
  have nF:F≠[]:=J.ne
  refine T.frm.elim fun env' f=>f.elim fun outer f=>f.elim fun L f=>?_
  replace q:wpX ch it μ σ _ E:=q
  have cont:∀(s₁:Shared) σ₁,SS g s₁→∀items chk pp I o S h' tk,ItOK cx A items chk pp I S→S 0 o→Inv cx F ((I,o)::(pp++aux)) σ₁ h'→I∉(pp++aux).map (·.1)→items.length≤16777216→
    wpCL chk (fun item acc σ kont=>bindC n tupled item σ fun ws=>wpAnd ch ifs (ws++caps.map fun i=>μ.getD i .unb) σ (fun b σ=>cond b (wpX ch elt (ws++caps.map fun i=>μ.getD i .unb) σ (fun r σ=>kont (acc++[r]) σ) E) (kont acc σ)) E) items [] σ₁ (fun rs σ=>alloc (.list false rs) σ Q)→
    wpAny cx.M A (newList []) (fun acc s₃=>wpAny cx.M A (newFunctionEnv sc env.globals (clo env sc.names []) [] env.qual none .none (some env)) (fun cenv s₄=>
     codeAny cx.M A (.compStart (.ListComp el [⟨tg,its,fs,0⟩] sc pos) 0 (.ref I) acc {cenv with scope:=relabel sc env}) (compPost cx.M A (PEx cx F aux envs g true E) use P acc cenv.locals) s₄) (PEx cx F aux envs g true E) s₃) (PEx cx F aux envs g true E) {s₁ with heap:=h',toks:=tk}:=by
   intro s₁ σ₁ ss₁ items chk pp I o S h' tk iO hS J₁ nI hlen q₁
   refine start_ok (RR:=fun acc C=>compPost cx.M A (PEx cx F aux envs g true E) use P acc C) (s:={s₁ with heap:=h',toks:=tk}) rfl CA.nc CA.kind iO hS J₁ fun D C oD mC s₄ ss₄ la J₄ hID hDa=>?_
   have X:=CA.at_ C
   have ss₄':SS g s₄:=(ss₁.trans ⟨rfl,rfl,rfl⟩:SS g {s₁ with heap:=h',toks:=tk}).trans ss₄
   refine comp_loop (E:=E) (Bd:=fun i acc=>acc.length≤i) (Mi:=fun ω=>True) (aux0:=aux) (turn_list ..) f.1 T.stk f.2.1 f.2.2 iO (fun q hq=>List.mem_append_left _ hq) hID nI ?_ ?_ ?_ hS ss₄' la (Nat.le_refl _) trivial J₄ q₁
   ·intro i o' s' mC oD accs σ' v hi rv hS' ss' la' bd' _ J' kont q'
    refine wpAny_bind (letGo_ok iO hS' (J'.auxs _ (.head _)).1 (wpAny_bind ?_))
    rw [←hln] at q'
    refine bind_ok o4 X.loc X.kind T.ao.hd X.ownD X.ownK rv J' q' fun ws mC' h'' tk' q2 hw e1 ω J2=>?_
    have TA:At ⟨nms,reNames k.names sc.names⟩ A N (compEnvC sc (clo env sc.names []) C env) envs ((C,mC')::F) ((I,o')::(D,oD)::(pp++aux)) mC' ca (ws++caps.map fun i=>μ.getD i .unb):=
     X.at' hw (fun q hq=>in_pp q (T.cas q hq)) (fun i y a hy ha ω=>e1 i y a hy ha)
    have ss2:SS g {s' with heap:=h'',toks:=tk'}:=ss'.trans ⟨rfl,rfl,rfl⟩
    refine wpAny_bind (wpBE (tests_ok hifs TA ss2 J2 q2) (fun v s₅ p=>EC.of p in_pp) fun b s₅ σ₅ ss₅ J₅ q5=>?_)
    cases b with
    |false=>exact wpAny_pure ⟨rfl,mC',oD,accs,σ₅,ss₅,la',Nat.le_succ_of_le bd',trivial,J₅,q5⟩
    |true=>
     exact wpAny_bind (wpAny_bind (wpVE (helt TA ss₅ J₅ q5) (fun v s₅ p=>EC.of p in_pp) fun va s₆ a σ₆ ss₆ ra J₆ q₆=>
      wpAny_bind (emit_ok J₆ hID hDa la' (Nat.le_trans bd' (Nat.le_trans (Nat.le_of_lt hi) hlen)) ra fun h₇ oD₇ la₇ J₇=>wpAny_pure
       (wpAny_pure ⟨rfl,mC',oD₇,accs++[a],σ₆,ss₆.trans ⟨rfl,rfl,rfl⟩,la₇,len_snoc bd',trivial,J₇,q₆⟩))))
   ·intro s' mC oD accs σ' ss' la' _ J' q'
    exact hfin s' D C mC oD accs σ' ss' la' (J'.auxS dropP) (not_app hDa) q'
   ·exact fun v s' x=>post_err T.eo nF x
  refine wpAny_comprehension_free rfl (folded hit.set) CA.clo CA.kind CA.loc ?_
  show wpAny cx.M A (eval its env) _ _ s
  cases hit with
  |it _ hit=>
   simp only [Bool.false_eq_true,if_false] at q
   exact wpV (hit T ss J q) fun v s₁ a σ₁ ss₁ ra J₁ q₁=>iter_start G.toGood T.ao.hd J₁ ra q₁ fun items chk pp I o S h' tk iO hS J₂ nI hl q₂=>cont s₁ σ₁ ss₁ items chk pp I o S h' tk iO hS J₂ nI hl q₂
  |rng og hs hit=>
   simp only [if_true] at q
   exact one_P G hs hit (x := "range") (w:=.type "range") (.tail _ (.tail _ (.tail _ (.tail _ (.tail _ (.tail _ (.head _))))))) keepV_t og T ss J q fun v b σ₁ s₁ ss₁ r J₁ q₁=>
    range_start T.ao.hd J₁ r q₁ fun items chk pp I o S h' tk iO hS J₂ nI hl q₂=>cont s₁ σ₁ ss₁ items chk pp I o S h' tk iO hS J₂ nI hl q₂
theorem fin_none {P:Value→Shared→Prop}{E':Value→Shared→Prop}(nF:F≠[]){s':Shared}{D C:Addr}{mC oD rs σ'}(ss:SS g s')(la:LA D oD rs)(J:Inv cx ((C,mC)::F) ((D,oD)::aux) σ' s'.heap)(hD:D∉aux.map (·.1))(q:alloc (.list false rs) σ' Q)
  (hP:∀v s',PV cx F aux g Q v s'→P v s'):compPost cx.M A E' none P (.ref D) C (.ok .next) s':=by
 refine ⟨mC,(J.ns _ (.head _)).1,fun h' sb=>hP _ _ ?_⟩
 have J':=J.pop nF (fun b o hb e=>sb.extBut b o hb e)
 obtain ⟨np,cvs,rv,l⟩:=la
 have hl:=l h' (J'.auxs _ (.head _)).1
 have hD0:=J'.free (.head _) np
 exact ⟨.ref D,_,ss.trans ⟨rfl,rfl,rfl⟩,.ref _,J'.hand (ob:=.list false rs) np hD (fun b o ω e=>e) ⟨cvs,hl,rv,nofun⟩,q _ _ hD0 (put_ext hD0) (put_self ..)⟩
theorem snd_comp (G:Good3 cx){it elt:X}{ifs:List T}{n:Nat}{tupled rng:Bool}{nms:List String}{caps:List Nat}{el tg its:PySem.Expr}{fs:List PySem.Expr}{sc:Scope}{pos:Pos}
  (o0:n≤nms.length)(o1:okScope k.names sc (nms.take n) (nms.drop n)=true)(o2:capsOK k nms n caps=true)(hit:ItS cx ch N k rng it its)(o4:okTgC tupled (nms.take n) tg=true)(hifs:SndTs cx ch N (inC k nms sc) ifs fs)(helt:SndX cx ch N (inC k nms sc) elt el) :
  SndX cx ch N k (.comp n tupled rng it ifs elt nms caps) (.ListComp el [⟨tg,its,fs,0⟩] sc pos):=fun T ss J q=>by
 rw [eval_ListComp]
 exact comp_any G o0 o1 o2 hit o4 hifs helt T ss J q fun s' D C mC oD rs σ' ss' la J' hD q'=>fin_none J.ne ss' la J' hD q' fun ω ω p=>p
theorem start_in {el t1 i1 t2 i2:PySem.Expr}{sc:Scope}{pos:Pos}{it acc:Value}{R:Result→Shared→Prop}
  (h0:codeAny cx.M A (.compLoop (.ListComp el [⟨t1,i1,[],0⟩,⟨t2,i2,[],0⟩] sc pos) 1 it acc env) R s)
  (h:wpAny cx.M A (pyIter it) (fun it' s'=>codeAny cx.M A (.compLoop (.ListComp el [⟨t1,i1,[],0⟩,⟨t2,i2,[],0⟩] sc pos) 1 it' acc env) R s') (notedBy cx.M A env fun x s'=>R (.error x) s') s) :
  codeAny cx.M A (.compStart (.ListComp el [⟨t1,i1,[],0⟩,⟨t2,i2,[],0⟩] sc pos) 1 it acc env) R s:=by
 refine codeAny_of_tree ?_
 show wpAny _ _ ((compStart (.ListComp el [⟨t1,i1,[],0⟩,⟨t2,i2,[],0⟩] sc pos) 1 it acc env).onRaise (fun x=>do noteFrame x env;standAt theWindowsPlace)) _ _ s
 refine wpAny_notedAt ?_
 unfold compStart
 show wpAny _ _ (ask >>= _) _ _ s
 refine wpAny_bind (wpAny_askSetting (wpAny_ite ?_))
 split
 ·first
   |exact wpAny_bind (wpAny_pure (wpAny_pure (And.intro rfl h0)))
   |exact wpAny_pure (And.intro rfl h0)
 ·first
   |exact wpAny_bind (wpAny_rule (wpAny_bind (wpAny_standAt (wpAny_bind (wpAny_mono h (fun it' s' h'=>wpAny_pure (And.intro rfl h')) fun ω ω x=>x)))))
   |(refine wpAny_bind (wpAny_rule ?_);show wpAny _ _ (standAt i2.pos >>= _) _ _ s;exact wpAny_bind (wpAny_standAt (wpAny_bind (wpAny_mono h (fun it' s' h'=>wpAny_pure (And.intro rfl h')) fun ω ω x=>x))))
end
end Internal
end
section
open PySem PySem.W PySem.Calls PyProof.Rows
set_option maxRecDepth 100000
namespace Internal
section
variable {cx:Cx}{ch:Ch}{N:Nat}{k:SC}{A:Around}{n:Nat}{env cenv:Env}{envs:List Env}{F:List Ns1}{aux aux0 auxR ca pp:List (Addr×Obj)}{m mC:PySem.Str→Option Value}{μ:List V}{σ:Sto}{s g:Shared}{Q:PX}{E:PE}{h h':Heap}{C D I:Addr}{o oD:Obj}{rs:List V}
noncomputable def C2R (cx:Cx)(A:Around)(cenv:Env)(envs:List Env)(C:Addr)(F:List Ns1)(aux auxR:List (Addr×Obj))(I:Addr)(o':Obj)(D:Addr)(g:Shared)(E:PE)(cd:PySem.Code)(kont:List V→Sto→Prop)(r:Result)(s':Shared):Prop:=match r with
 |.ok _=>wpAny cx.M A (again cd) (fun fin s''=>fin=.again cd∧CSt cx C F auxR I o' D g (fun ω=>True) (fun ω=>True) kont s'') (EC cx C F aux envs g E) s'
 |.error e=>cameBackBy cx.M A cenv (EC cx C F aux envs g E) e s'
section
variable {X Y Z:Addr×Obj}{pp2 L:List (Addr×Obj)}
theorem mid2:∀q∈pp2++Z::aux,q∈pp2++Z::Y::aux:=fun ω h=>(List.mem_append.mp h).elim (List.mem_append_left _) fun h=>List.mem_append_right _ ((List.mem_cons.mp h).elim (fun e=>e▸.head _) fun h=>.tail _ (.tail _ h))
theorem up2:∀q∈X::Y::(pp2++Z::aux),q∈X::(pp2++Z::Y::aux):=List.forall_mem_cons.mpr ⟨.head _,List.forall_mem_cons.mpr ⟨.tail _ (List.mem_append_right _ (.tail _ (.head _))),fun q h=>.tail _ (mid2 q h)⟩⟩
theorem dn2:∀q∈Z::Y::aux,q∈Y::(pp2++Z::aux):=List.forall_mem_cons.mpr ⟨.tail _ (List.mem_append_right _ (.head _)),List.forall_mem_cons.mpr ⟨.head _,fun ω h=>.tail _ (List.mem_append_right _ (.tail _ h))⟩⟩
theorem in_pp2:∀q∈aux,q∈X::Y::(pp2++Z::(pp++aux)):=fun ω h=>.tail _ (.tail _ (List.mem_append_right _ (.tail _ (List.mem_append_right _ h))))
theorem not_sub (a:∀q∈aux,q∈L)(h:D∉L.map (·.1)):D∉aux.map (·.1):=fun z=>(List.mem_map.mp z).elim fun q e=>h (List.mem_map.mpr ⟨q,a q e.1,e.2⟩)
theorem not_at (h:D∉L.map (·.1))(m:(C,o)∈L):D≠C:=fun z=>h (List.mem_map.mpr ⟨_,m,z.symm⟩)
theorem not_mid (h1:D∉pp2.map (·.1))(h2:D≠Z.1)(h3:D∉aux.map (·.1)):D∉(pp2++Z::aux).map (·.1):=fun z=>by
 rw [List.map_append,List.map_cons] at z
 exact (List.mem_append.mp z).elim h1 fun z=>(List.mem_cons.mp z).elim h2 h3
theorem not_pins (J:Inv cx F L σ h)(hp:∀q∈pp2,pin q.2=true)(sub:∀q∈pp2,q∈L)(m:(D,oD)∈L)(np:pin oD=false):D∉pp2.map (·.1):=fun z=>(List.mem_map.mp z).elim fun q e=>by
 have h1:=(J.auxs q (sub q e.1)).1
 rw [e.2,(J.auxs _ m).1] at h1
 have h3:=hp q e.1
 rw [←Option.some.inj h1,np] at h3
 exact Bool.false_ne_true h3
end
theorem comp2_in (G:Good3 cx){elt:X}{x1 x2:String}{el t1 i1 t2 i2:PySem.Expr}{sc:Scope}{pos:Pos}{k':SC}(o5:okTgC false [x2] t2=true)(helt:SndX cx ch N k' elt el)(cas:∀q∈ca,q∈aux)(hne:Str.ofString x1≠Str.ofString x2)(hes:∃env' outer L,envs=env'::outer∧env'.frame=some L∧cenv.frame=some L)(stk:A.frames=some envs)(hd:A.handled=none)
  (hn:[x2].Nodup)(hk:cenv.scope.kind=.function)(hC:cenv.locals=C)(hx2:cenv.kindOf (Str.ofString x2)=some .local){a1:V}
  (TA:∀{mC aux} {a2:V},(∀q∈ca,q∈aux)→(∃v,mC (Str.ofString x1)=some v∧VR v a1)→(∃v,mC (Str.ofString x2)=some v∧VR v a2)→At k' A N cenv envs ((C,mC)::F) aux mC ca ([a1,a2]++[]))
  {items2:List V}{chk2:Sto→Prop}{pp2:List (Addr×Obj)}{I2:Addr}{o' oI2:Obj}{S2:Nat→Obj→Prop}{kont:List V→Sto→Prop}{accs:List V}(iO2:ItOK cx A items2 chk2 pp2 I2 S2)(hS2:S2 0 oI2)
  (nI2:I2∉(pp2++(I,o')::(D,oD)::(pp++aux)).map (·.1))(hID:I≠D)(hDa:D∉(pp++aux).map (·.1))(ss:SS g s)(la:LA D oD accs)(f1:∃v,mC (Str.ofString x1)=some v∧VR v a1)
  (J:Inv cx ((C,mC)::F) ((I2,oI2)::(pp2++(I,o')::(D,oD)::(pp++aux))) σ s.heap)(q:wpCL chk2 (fun it2 acc σ kont=>wpX ch elt [a1,it2] σ (fun r σ=>acc.length≤1000000∧kont (acc++[r]) σ) E) items2 accs σ kont) :
  codeAny cx.M A (.compLoop (.ListComp el [⟨t1,i1,[],0⟩,⟨t2,i2,[],0⟩] sc pos) 1 (.ref I2) (.ref D) cenv) (C2R cx A cenv envs C F aux (pp++aux) I o' D g E (.compLoop (.ListComp el [⟨t1,i1,[],0⟩,⟨t2,i2,[],0⟩] sc pos) 0 (.ref I) (.ref D) cenv) kont) s:=by
 refine hes.elim fun env' f=>f.elim fun outer f=>f.elim fun L f=>?_
 refine comp_loop (E:=E) (Bd:=fun i acc=>True) (Mi:=fun mC=>∃v,mC (Str.ofString x1)=some v∧VR v a1) (aux0:=aux) (turn_in ..) f.1 stk f.2.1 f.2.2 iO2 (fun q hq=>List.mem_append_left _ hq) (not_at nI2 (List.mem_append_right _ (.tail _ (.head _)))) (not_sub mid2 nI2) ?_ ?_ ?_ hS2 ss la trivial f1 (J.auxS up2) q
 ·intro i2' o2' s8 mC8 oD8 accs8 σ8 v8 hi8 rv8 hS8 ss8 la8 _ mi8 J8 kont8 q8
  refine wpAny_bind (letGo_ok iO2 hS8 (J8.auxs _ (.head _)).1 (wpAny_bind ?_))
  refine bind_ok (own:=[x2]) (R:=fun ws=>ws=[items2[i2']]) o5 hC hk hd hn (List.forall_mem_cons.mpr ⟨hx2,fun ω h=>absurd h List.not_mem_nil⟩) rv8 J8 ⟨rfl,rfl⟩ fun ws mC9 h9 tk9 q9 ω e9 e9' J9=>?_
  rw [q9] at e9
  have f1':∃v,mC9 (Str.ofString x1)=some v∧VR v a1:=by
   rw [e9' _ (List.forall_mem_cons.mpr ⟨hne,fun ω h=>absurd h List.not_mem_nil⟩)];exact mi8
  refine wpAny_bind (wpAny_bind (wpVE (helt (TA (fun q h=>in_pp2 q (cas q h)) f1' (e9 0 x2 _ rfl rfl)) (ss8.trans ⟨rfl,rfl,rfl⟩:SS g {s8 with heap:=h9,toks:=tk9}) J9 q8) (fun v s₅ p=>EC.of p in_pp2) fun va s₁₀ a10 σ10 ss10 ra10 J10 q10=>?_))
  exact wpAny_bind (emit_ok J10 (not_at nI2 (List.mem_append_right _ (.tail _ (.head _)))) (not_mid (not_pins J10 iO2.pins (fun q h=>.tail _ (.tail _ (List.mem_append_left _ h))) (.tail _ (.head _)) la8.1) hID.symm hDa) la8 (Nat.le_trans q10.1 (Nat.le_of_ble_eq_true rfl)) ra10 fun h11 oD11 la11 J11=>wpAny_pure
   (wpAny_pure ⟨rfl,mC9,oD11,accs8++[a10],σ10,ss10.trans ⟨rfl,rfl,rfl⟩,la11,trivial,f1',J11,q10.2⟩))
 ·exact fun s8 mC8 oD8 accs8 σ8 ss8 la8 mi8 J8 q8=>wpAny_pure ⟨rfl,mC8,oD8,accs8,σ8,ss8,la8,trivial,trivial,J8.auxS dn2,q8⟩
 ·exact fun v s8 x=>x.elim fun mC8 x=>x.came fun v s9 y=>⟨mC8,y⟩
theorem comp2_any (G:Good3 cx){it1 it2 elt:X}{x1 x2:String}{el t1 i1 t2 i2:PySem.Expr}{sc:Scope}{pos fpos:Pos}
  (o1:okScope k.names sc [x1,x2] []=true)(f1:isSet i1=false)(hit1:SndX cx ch N k it1 i1)(o4:okTgC false [x1] t1=true)(o5:okTgC false [x2] t2=true)(f2:isSet i2=false)(hit2:SndX cx ch N (inC k [x1,x2] sc) it2 i2)(helt:SndX cx ch N (inC k [x1,x2] sc) elt el)
  (T:At k A N env envs F aux m ca μ)(ss:SS g s)(J:Inv cx F aux σ s.heap)(q:wpX ch (.comp2 it1 it2 elt [x1,x2]) μ σ Q E)
  {use:Option (Value→Sem Unit)}{P:Value→Shared→Prop}
  (hfin:∀(s':Shared) D C mC oD rs σ',SS g s'→LA D oD rs→Inv cx ((C,mC)::F) ((D,oD)::aux) σ' s'.heap→D∉aux.map (·.1)→alloc (.list false rs) σ' Q→compPost cx.M A (PEx cx F aux envs g true E) use P (.ref D) C (.ok .next) s') :
  wpAny cx.M A (comprehension (.ListComp el [⟨t1,i1,[],0⟩,⟨t2,i2,[],0⟩] sc pos) sc env fpos (newList []) false (firstIter [⟨t1,i1,[],0⟩,⟨t2,i2,[],0⟩] env) use) P (PEx cx F aux envs g true E) s:=by
  have CA:=comp_at (nms:=[x1,x2]) (n:=2) (caps:=[]) T (Nat.le_refl 2) (show okScope k.names sc (List.take 2 [x1,x2]) (List.drop 2 [x1,x2])=true from o1) rfl
  have nF:F≠[]:=J.ne
  replace q:wpX ch it1 μ σ _ E:=q
  refine wpAny_comprehension_free rfl (folded f1) CA.clo CA.kind CA.loc ?_
  show wpAny cx.M A (eval i1 env) _ _ s
  refine wpV (hit1 T ss J q) fun v s₁ a σ₁ ss₁ ra J₁ q₁=>?_
  refine iter_start G.toGood T.ao.hd J₁ ra q₁ fun items chk pp I o S h' tk iO hS J₁ nI hlen q₁=>?_
  refine start_ok (RR:=fun acc C=>compPost cx.M A (PEx cx F aux envs g true E) use P acc C) (s:={s₁ with heap:=h',toks:=tk}) rfl CA.nc CA.kind iO hS J₁ fun D C oD mC s₄ ss₄ la J₄ hID hDa=>?_
  have X:=CA.at_ C
  have hfr:=X.frm
  generalize hce:compEnvC sc (clo env sc.names []) C env=cenv at X hfr⊢
  have ss₄':SS g s₄:=(ss₁.trans ⟨rfl,rfl,rfl⟩:SS g {s₁ with heap:=h',toks:=tk}).trans ss₄
  have nd:[x1,x2].Nodup:=X.ownD
  have hk:=List.forall_mem_cons.mp X.ownK
  have hk2:=(List.forall_mem_cons.mp hk.2).1
  have hne:Str.ofString x1≠Str.ofString x2:=fun z=>(List.nodup_cons.mp nd).1 (ofString_inj z▸.head _)
  refine hfr.elim fun env' f=>f.elim fun outer f=>f.elim fun L f=>?_
  refine comp_loop (E:=E) (Bd:=fun i acc=>True) (Mi:=fun ω=>True) (aux0:=aux) (turn_out ..) f.1 T.stk f.2.1 f.2.2 iO (fun q hq=>List.mem_append_left _ hq) hID nI ?_ ?_ ?_ hS ss₄' la trivial trivial J₄ q₁
  ·intro i o' s' mC oD accs σ' v hi rv hS' ss' la' _ _ J' kont q'
   refine wpAny_bind (letGo_ok iO hS' (J'.auxs _ (.head _)).1 (wpAny_bind ?_))
   refine bind_ok (own:=[x1]) (R:=fun ws=>ws=[items[i]]) o4 X.loc X.kind T.ao.hd (List.nodup_cons.mpr ⟨List.not_mem_nil,List.nodup_nil⟩) (List.forall_mem_cons.mpr ⟨hk.1,fun ω h=>absurd h List.not_mem_nil⟩) rv J' ⟨rfl,rfl⟩ fun ws mC' h'' tk' q2 ω e1 ω J2=>?_
   rw [q2] at e1
   have f1:=e1 0 x1 _ rfl rfl
   refine wpAny_bind (wpVE (hit2 (X.at' (ws:=[items[i],V.unb]) rfl (fun q hq=>in_pp q (T.cas q hq)) (own2 f1 fun z=>absurd rfl z)) (ss'.trans ⟨rfl,rfl,rfl⟩:SS g {s' with heap:=h'',toks:=tk'}) J2 q') (fun v s₅ p=>EC.of p in_pp) fun va s₅ a2 σ₅ ss₅ ra2 J₅ q₅=>?_)
   refine wpAny_bind (wpAny_standAt (wpAny_bind (wpAny_of_eq (folded f2 va) (wpAny_bind (wpAny_holding ?_)))))
   refine iter_start G.toGood T.ao.hd J₅ ra2 q₅ fun items2 chk2 pp2 I2 oI2 S2 h6 tk6 iO2 hS2 J₆ nI2 hlen2 q₆=>?_
   have loop:=comp2_in (s:={s₅ with heap:=h6,toks:=tk6}) (el:=el) (t1:=t1) (i1:=i1) (i2:=i2) (sc:=sc) (pos:=pos) G o5 helt T.cas hne hfr T.stk T.ao.hd (List.nodup_cons.mp nd).2 X.kind X.loc hk2 (fun cs h1 h2=>X.at' rfl cs (own2 h1 fun ω=>h2)) iO2 hS2 nI2 hID hDa (ss₅.trans ⟨rfl,rfl,rfl⟩) la' f1 J₆ q₆
   exact wpAny_bind (wpAny_runOwn (h:=none) (start_in loop (iO2.self (J₆.auxs _ (.head _)).1 hS2 loop)))
  ·exact fun s' mC oD accs σ' ss' la' ω J' q'=>hfin s' D C mC oD accs σ' ss' la' (J'.auxS dropP) (not_app hDa) q'
  ·exact fun v s' x=>post_err T.eo nF x
theorem snd_comp2 (G:Good3 cx){it1 it2 elt:X}{x1 x2:String}{el t1 i1 t2 i2:PySem.Expr}{sc:Scope}{pos:Pos}
  (o1:okScope k.names sc [x1,x2] []=true)(f1:isSet i1=false)(hit1:SndX cx ch N k it1 i1)(o4:okTgC false [x1] t1=true)(o5:okTgC false [x2] t2=true)(f2:isSet i2=false)(hit2:SndX cx ch N (inC k [x1,x2] sc) it2 i2)(helt:SndX cx ch N (inC k [x1,x2] sc) elt el) :
  SndX cx ch N k (.comp2 it1 it2 elt [x1,x2]) (.ListComp el [⟨t1,i1,[],0⟩,⟨t2,i2,[],0⟩] sc pos):=fun T ss J q=>by
 rw [eval_ListComp]
 exact comp2_any G o1 f1 hit1 o4 o5 f2 hit2 helt T ss J q fun s' D C mC oD rs σ' ss' la J' hD q'=>fin_none J.ne ss' la J' hD q' fun ω ω p=>p
end
end Internal
end
section
open PySem PySem.W PySem.Calls PyProof.Rows
set_option maxRecDepth 100000
namespace Internal
section
variable {cx:Cx}{ch:Ch}{N:Nat}
section
variable {P:PySem.Expr→Prop}(e:PySem.Expr)
noncomputable def onCall1 (f:∀c x p,Chk (P (.Call c [x] [] p))):Chk (P e):=onCall e fun c es p=>match es with | [x]=>f c x p |_=>none
noncomputable def onCall2 (f:∀c x y p,Chk (P (.Call c [x,y] [] p))):Chk (P e):=onCall e fun c es p=>match es with | [x,y]=>f c x y p |_=>none
noncomputable def onMeth (f:∀v s ap es p,Chk (P (.Call (.Attribute v s ap) es [] p))):Chk (P e):=onCall e fun c es p=>onAtt (P:=fun c=>P (.Call c es [] p)) c fun v s ap=>f v s ap es p
noncomputable def onMeth1 (f:∀v s ap x p,Chk (P (.Call (.Attribute v s ap) [x] [] p))):Chk (P e):=onMeth e fun v s ap es p=>match es with | [x]=>f v s ap x p |_=>none
noncomputable def onMethS (f:∀v s ap x z d q p,Chk (P (.Call (.Attribute v s ap) [x,.Constant (.str z) d q] [] p))):Chk (P e):=onMeth e fun v s ap es p=>match es with
 | [x,y]=>onCst (P:=fun y=>P (.Call (.Attribute v s ap) [x,y] [] p)) y fun z d q=>match z with |.str z=>f v s ap x z d q p |_=>none
 |_=>none
end
theorem SndXs.one {k:SC}{x:X}{e:PySem.Expr}{xs:List X}{es:List PySem.Expr}(h:SndXs cx ch N k (x::xs) (e::es)):SndX cx ch N k x e∧SndXs cx ch N k xs es:=by
 cases h with |cons _ a b=>exact ⟨a,b⟩
theorem SndXs.one1 {k:SC}{x:X}{e:PySem.Expr}{xs:List X}{es:List PySem.Expr}(h:SndXs cx ch N k (x::xs) (e::es)):SndX cx ch N k x e:=by have:=h.one;exact @this.1
theorem SndXs.one2 {k:SC}{x:X}{e:PySem.Expr}{xs:List X}{es:List PySem.Expr}(h:SndXs cx ch N k (x::xs) (e::es)):SndXs cx ch N k xs es:=h.one.2
theorem snd_revI {k:SC}{a:X}{v:PySem.Expr}{d:Nat}{p1 p2 p3 p4:Pos}{i:Int}(h:i=1)(ha:SndX cx ch N k a v):SndX cx ch N k (.rev a) (.Subscript v (.Slice none none (some (.UnaryOp .USub (.Constant (.int i) d p1) p2)) p3) p4):=by
 subst h;exact snd_rev ha
theorem snd_cmpE {k:SC}{a b:X}{op:COp}{o:CmpOp}{l r:PySem.Expr}{pos:Pos}(G:Good3 cx)(h:o=copOf op)(o0:notMarks (copOf op) r=true)(ha:SndX cx ch N k a l)(hb:SndX cx ch N k b r):SndX cx ch N k (.cmp a op b) (.Compare l [o] [r] pos):=by
 subst h;exact snd_cmp G o0 ha hb
theorem snd_binE {k:SC}{a b:X}{op:BOp}{o:Operator}{l r:PySem.Expr}{pos:Pos}(h:o=opOf op)(ha:SndX cx ch N k a l)(hb:SndX cx ch N k b r):SndX cx ch N k (.bin op a b) (.BinOp l o r pos):=by
 subst h;exact snd_bin ha hb
theorem tst_cmpE {k:SC}(G:Good3 cx){x:X}{xs:List X}{ops:List COp}{os:List CmpOp}{l:PySem.Expr}{rs:List PySem.Expr}{pos:Pos}(h:os=ops.map copOf)(o2:lastMarks (ops.map copOf) rs=false)(hx:SndX cx ch N k x l)(hc:SndCh cx ch N k xs ops rs) :
  SndT cx ch N k (.cmp x ops xs) (.Compare l os rs pos):=by
 subst h;exact tst_cmp G o2 hx hc
noncomputable def isE (b:Bool){p:Prop}(f:b=false→Chk p):Chk p:=match b with |true=>none |false=>f rfl
noncomputable def isT (b:Bool){p:Prop}(f:b=true→Chk p):Chk p:=match b with |true=>f rfl |false=>none
noncomputable def isP (q:Prop)[Decidable q]{p:Prop}(f:q→Chk p):Chk p:=if h:q then f h else none
variable (cx ch N)
noncomputable abbrev KX (x:X):=∀(k:SC) (e:PySem.Expr),Chk (SndX cx ch N k x e)
noncomputable abbrev KT (t:T):=∀(k:SC) (e:PySem.Expr),Chk (SndT cx ch N k t e)
noncomputable abbrev KXs (xs:List X):=∀(k:SC) (es:List PySem.Expr),Chk (SndXs cx ch N k xs es)
noncomputable abbrev KCh (xs:List X):=∀(k:SC) (ops:List COp) (es:List PySem.Expr),Chk (SndCh cx ch N k xs ops es)
noncomputable abbrev KTs (ts:List T):=∀(k:SC) (es:List PySem.Expr),Chk (SndTs cx ch N k ts es)
noncomputable abbrev KL (xs:List X):=PProd (KXs cx ch N xs) (KCh cx ch N xs)
variable {cx ch N}
variable (G:Good3 cx)(C:ChOK cx ch N)(hN:6≤N∨∀c as σ Q E,¬ch.i c as σ Q E)
section
variable {a b:X}{xs ys:List X}{c t u:T}{ts:List T}
noncomputable def k_loc (i:Nat):KX cx ch N (.loc i):=fun k e=>onName e fun s p=>isT (okL k i s) fun h=>isT (okK k s) fun ω=>.ok (no_implicit_lambda% snd_loc @h)
noncomputable def k_glo (x:String)(v:V):KX cx ch N (.glo x v):=fun k e=>(some? (gloV x)).bind fun u=>isT (vEq u.1 v) fun h=>isT (okGE k x e) fun h2=>.ok (no_implicit_lambda% snd_glo G u.2 @h @h2)
noncomputable def k_cst (v:V):KX cx ch N (.cst v):=fun k e=>onCst e fun c d p=>isT (okV v c) fun h=>.ok (no_implicit_lambda% snd_cst @h)
noncomputable def k_bin (op:BOp)(a b:X)(A:KX cx ch N a)(B:KX cx ch N b):KX cx ch N (.bin op a b):=fun k e=>onBin e fun l o r p=>isP (o=opOf op) fun h=>(A k l).on fun h1=>(B k r).on fun h2=>.ok (no_implicit_lambda% snd_binE @h @h1 @h2)
noncomputable def k_neg (a:X)(A:KX cx ch N a):KX cx ch N (.neg a):=fun k e=>onUn e fun o x p=>match o with |.USub=>(A k x).on fun h=>.ok (no_implicit_lambda% snd_neg @h) |_=>none
noncomputable def k_cmp (a:X)(op:COp)(b:X)(A:KX cx ch N a)(B:KX cx ch N b):KX cx ch N (.cmp a op b):=fun k e=>onCmp e fun l os rs p=>onC (P:=fun os=>SndX cx ch N k (.cmp a op b) (.Compare l os rs p)) os fun o os=>on0 (P:=fun os=>SndX cx ch N k (.cmp a op b) (.Compare l (o::os) rs p)) os (onC (P:=fun rs=>SndX cx ch N k (.cmp a op b) (.Compare l [o] rs p)) rs fun r rs=>on0 (P:=fun rs=>SndX cx ch N k (.cmp a op b) (.Compare l [o] (r::rs) p)) rs (isP (o=copOf op) fun h=>isT (notMarks (copOf op) r) fun h0=>(A k l).on fun h1=>(B k r).on fun h2=>.ok (no_implicit_lambda% snd_cmpE G @h @h0 @h1 @h2)))
noncomputable def k_andv (a b:X)(A:KX cx ch N a)(B:KX cx ch N b):KX cx ch N (.andv a b):=fun k e=>onBool e fun o es p=>match o with
 |.And=>onC (P:=fun es=>SndX cx ch N k (.andv a b) (.BoolOp .And es p)) es fun x es=>onC (P:=fun es=>SndX cx ch N k (.andv a b) (.BoolOp .And (x::es) p)) es fun y es=>on0 (P:=fun es=>SndX cx ch N k (.andv a b) (.BoolOp .And (x::y::es) p)) es ((A k x).on fun h1=>(B k y).on fun h2=>.ok (no_implicit_lambda% snd_andv @h1 @h2))
 |.Or=>none
noncomputable def k_ite (c:T)(a b:X)(D:KT cx ch N c)(A:KX cx ch N a)(B:KX cx ch N b):KX cx ch N (.ite c a b):=fun k e=>onIf e fun t x y p=>(D k t).on fun h0=>(A k x).on fun h1=>(B k y).on fun h2=>.ok (no_implicit_lambda% snd_ite @h0 @h1 @h2)
noncomputable def k_tup (xs:List X)(A:KL cx ch N xs):KX cx ch N (.tup xs):=fun k e=>onTup e fun es c p=>isP (xs.length≤1000) fun h=>(A.1 k es).on fun h1=>.ok (no_implicit_lambda% snd_tup @h @h1)
noncomputable def k_lst (m:Bool)(xs:List X)(A:KL cx ch N xs):KX cx ch N (.lst m xs):=fun k e=>onLst e fun es p=>isP (xs.length≤1000) fun h=>(A.1 k es).on fun h1=>.ok (no_implicit_lambda% snd_lst @h @h1)
noncomputable def k_dct (m:Bool)(ks vs:List X)(_:KL cx ch N ks)(A:KL cx ch N vs):KX cx ch N (.dct m ks vs):=fun k e=>onDct e fun keys vals p=>isP (ks.length=vs.length) fun h1=>isP (ks.length≤15) fun h2=>isT (okKeys ks keys) fun h3=>(A.1 k vals).on fun h4=>.ok (no_implicit_lambda% snd_dct @h1 @h2 @h3 @h4)
noncomputable def k_sub (a i:X)(A:KX cx ch N a)(B:KX cx ch N i):KX cx ch N (.sub a i):=fun k e=>onSub e fun v s p=>isE (isSlice s) fun ω=>(A k v).on fun h1=>(B k s).on fun h2=>.ok (no_implicit_lambda% snd_sub @h1 @h2)
noncomputable def k_slc (a:X)(lo hi:Bool)(xs:List X)(A:KX cx ch N a)(B:KL cx ch N xs):KX cx ch N (.slc a lo hi xs):=fun k e=>onSub e fun v s p=>onSlc (P:=fun s=>SndX cx ch N k (.slc a lo hi xs) (.Subscript v s p)) s fun l u t p2=>match t with
 |some _=>none
 |none=>(A k v).on fun h=>match lo,hi,xs,l,u,B with
  |false,false,[],none,none,_=>.ok (no_implicit_lambda% snd_slc0 @h)
  |false,true,[_],none,some u,B=>(B.1 k [u]).on fun h1=>.ok (no_implicit_lambda% snd_slcH @h (no_implicit_lambda% SndXs.one1 @h1))
  |true,false,[_],some l,none,B=>(B.1 k [l]).on fun h1=>.ok (no_implicit_lambda% snd_slcL @h (no_implicit_lambda% SndXs.one1 @h1))
  |true,true,[_,_],some l,some u,B=>(B.1 k [l,u]).on fun h1=>.ok (no_implicit_lambda% snd_slcB @h (no_implicit_lambda% SndXs.one1 @h1) (no_implicit_lambda% SndXs.one1 (SndXs.one2 @h1)))
  |_,_,_,_,_,_=>none
noncomputable def k_rev (a:X)(A:KX cx ch N a):KX cx ch N (.rev a):=fun k e=>onSub e fun v s p=>onSlc (P:=fun s=>SndX cx ch N k (.rev a) (.Subscript v s p)) s fun l u t p2=>match l,u,t with
 |none,none,some t=>onUn (P:=fun t=>SndX cx ch N k (.rev a) (.Subscript v (.Slice none none (some t) p2) p)) t fun o x p3=>match o with
  |.USub=>onCst (P:=fun x=>SndX cx ch N k (.rev a) (.Subscript v (.Slice none none (some (.UnaryOp .USub x p3)) p2) p)) x fun c d p4=>match c with
   |.int i=>isP (i=1) fun h=>(A k v).on fun h1=>.ok (no_implicit_lambda% snd_revI @h @h1)
   |_=>none
  |_=>none
 |_,_,_=>none
noncomputable def k_att (a:X)(n:String)(A:KX cx ch N a):KX cx ch N (.att a n):=fun k e=>onAtt e fun v s p=>onName (P:=fun v=>SndX cx ch N k (.att a n) (.Attribute v s p)) v fun z q=>isP (s=Str.ofString n) fun hs=>(A k (.Name z q)).on fun h=>.ok (hs▸(no_implicit_lambda% snd_att G @h))
noncomputable def k_fn (f:Nat)(xs:List X)(A:KL cx ch N xs):KX cx ch N (.fn f xs):=fun k e=>onCall e fun c es p=>isT (okGE k (fnName f) c) fun h1=>isP (f<55) fun h2=>(A.1 k es).on fun h3=>.ok (no_implicit_lambda% snd_fn G C @h1 @h2 @h3)
noncomputable def k_mk (c:Nat)(xs:List X)(A:KL cx ch N xs):KX cx ch N (.mk c xs):=fun k e=>onCall e fun g es p=>isT (okGE k (clsName c) g) fun h1=>isP (2≤c∧c≤7) fun h2=>(A.1 k es).on fun h3=>.ok (no_implicit_lambda% snd_mk G C hN @h1 @h2 @h3)
noncomputable def k_mth (a:X)(n:String)(xs:List X)(A:KX cx ch N a)(B:KL cx ch N xs):KX cx ch N (.mth a n xs):=fun k e=>onMeth e fun v s ap es pos=>isT (objM v) fun h=>isP (ap.endLine=pos.line) fun h1=>isP (es.length<30) fun h4=>isP (s=Str.ofString n) fun hs=>(A k v).on fun h5=>(B.1 k es).on fun h6=>.ok (hs▸(no_implicit_lambda% snd_mth G C @h @h1 @h4 @h5 @h6))
noncomputable def k_len (a:X)(A:KX cx ch N a):KX cx ch N (.len a):=fun k e=>onCall1 e fun c x p=>isT (okGE k "len" c) fun h=>isE (isStar x) fun h0=>(A k x).on fun h1=>.ok (no_implicit_lambda% snd_len G @h @h0 @h1)
noncomputable def k_isi (a:X)(t:Ty)(A:KX cx ch N a):KX cx ch N (.isi a t):=fun k e=>onCall2 e fun c x y p=>onName (P:=fun y=>SndX cx ch N k (.isi a t) (.Call c [x,y] [] p)) y fun z zp=>isT (okGE k "isinstance" c) fun h=>isE (isStar x) fun h0=>(A k x).on fun h1=>isT (okGE k (tyName t) (.Name z zp)) fun h2=>.ok (no_implicit_lambda% snd_isi G @h @h0 @h1 @h2)
noncomputable def k_byt (a:X)(A:KX cx ch N a):KX cx ch N (.byt a):=fun k e=>onCall1 e fun c x p=>isT (okGE k "bytes" c) fun h=>isE (isStar x) fun h0=>(A k x).on fun h1=>.ok (no_implicit_lambda% snd_byt G @h @h0 @h1)
noncomputable def k_dcp (a:X)(A:KX cx ch N a):KX cx ch N (.dcp a):=fun k e=>onCall1 e fun c x p=>isT (okGE k "dict" c) fun h=>isE (isStar x) fun h0=>(A k x).on fun h1=>.ok (no_implicit_lambda% snd_dcp G @h @h0 @h1)
noncomputable def k_toB (a n:X)(l:Bool)(A:KX cx ch N a)(B:KX cx ch N n):KX cx ch N (.toB a n l):=fun k e=>onMethS e fun v s ap x z d p pos=>isP (z=Str.ofString (if l then "little" else "big")) fun hz=>isP (s=Str.ofString "to_bytes") fun hs=>isT (objM v) fun h=>isP (ap.endLine=pos.line) fun h1=>(A k v).on fun h3=>isE (isStar x) fun h0=>(B k x).on fun h4=>
 .ok (hs▸hz▸(no_implicit_lambda% snd_toB @h @h1 @h3 @h0 @h4))
noncomputable def k_frB (a:X)(A:KX cx ch N a):KX cx ch N (.frB a):=fun k e=>onMethS e fun v s ap x z d p pos=>onName (P:=fun v=>SndX cx ch N k (.frB a) (.Call (.Attribute v s ap) [x,.Constant (.str z) d p] [] pos)) v fun w wp=>isP (z=Str.ofString "big") fun hz=>isP (s=Str.ofString "from_bytes") fun hs=>isP (ap.endLine=pos.line) fun h1=>isT (okGE k "int" (.Name w wp)) fun h=>
 isE (isStar x) fun h0=>(A k x).on fun h3=>.ok (hs▸hz▸(no_implicit_lambda% snd_frB G @h1 @h @h0 @h3))
noncomputable def k_bitl (a:X)(A:KX cx ch N a):KX cx ch N (.bitl a):=fun k e=>onMeth e fun v s ap es pos=>on0 (P:=fun es=>SndX cx ch N k (.bitl a) (.Call (.Attribute v s ap) es [] pos)) es (isP (s=Str.ofString "bit_length") fun hs=>isT (objM v) fun h=>isP (ap.endLine=pos.line) fun h1=>(A k v).on fun h3=>.ok (hs▸(no_implicit_lambda% snd_bitl @h @h1 @h3)))
noncomputable def k_join (a:X)(A:KX cx ch N a):KX cx ch N (.join a):=fun k e=>onMeth1 e fun v s ap x pos=>onCst (P:=fun v=>SndX cx ch N k (.join a) (.Call (.Attribute v s ap) [x] [] pos)) v fun z d p=>match z with
 |.bytes []=>isP (s=Str.ofString "join") fun hs=>isP (ap.endLine=pos.line) fun h1=>isE (isStar x) fun h0=>(A k x).on fun h3=>.ok (hs▸(no_implicit_lambda% snd_join @h1 @h0 @h3))
 |_=>none
noncomputable def k_its (it:X)(I:KX cx ch N it)(k:SC)(rng:Bool)(its:PySem.Expr):Chk (ItS cx ch N k rng it its):=match rng with
 |false=>isE (isSet its) fun h0=>(I k its).on fun h4=>.ok (no_implicit_lambda% ItS.it @h0 @h4)
 |true=>onCall1 (P:=ItS cx ch N k true it) its fun c y q=>isT (okGE k "range" c) fun h0=>isE (isStar y) fun h8=>(I k y).on fun h4=>.ok (no_implicit_lambda% ItS.rng @h0 @h8 @h4)
noncomputable def k_comp (n:Nat)(tupled rng:Bool)(it:X)(ifs:List T)(elt:X)(nms:List String)(caps:List Nat)(I:KX cx ch N it)(F:KTs cx ch N ifs)(L:KX cx ch N elt):KX cx ch N (.comp n tupled rng it ifs elt nms caps):=fun k e=>onComp e fun el gs sc p=>onC (P:=fun gs=>SndX cx ch N k (.comp n tupled rng it ifs elt nms caps) (.ListComp el gs sc p)) gs fun g gs=>on0 (P:=fun gs=>SndX cx ch N k (.comp n tupled rng it ifs elt nms caps) (.ListComp el (g::gs) sc p)) gs (match g with
 |⟨tg,its,fs,0⟩=>isP (n≤nms.length) fun h1=>isT (okScope k.names sc (nms.take n) (nms.drop n)) fun h2=>isT (capsOK k nms n caps) fun h3=>isT (okTgC tupled (nms.take n) tg) fun h5=>
   (F (inC k nms sc) fs).on fun h6=>(L (inC k nms sc) el).on fun h7=>(k_its it I k rng its).on fun h4=>.ok (no_implicit_lambda% snd_comp G @h1 @h2 @h3 @h4 @h5 @h6 @h7)
 |_=>none)
noncomputable def k_comp2 (it1 it2 elt:X)(nms:List String)(A:KX cx ch N it1)(B:KX cx ch N it2)(L:KX cx ch N elt):KX cx ch N (.comp2 it1 it2 elt nms):=fun k e=>onComp e fun el gs sc p=>onC (P:=fun gs=>SndX cx ch N k (.comp2 it1 it2 elt nms) (.ListComp el gs sc p)) gs fun g gs=>onC (P:=fun gs=>SndX cx ch N k (.comp2 it1 it2 elt nms) (.ListComp el (g::gs) sc p)) gs fun g' gs=>on0 (P:=fun gs=>SndX cx ch N k (.comp2 it1 it2 elt nms) (.ListComp el (g::g'::gs) sc p)) gs (match g,g',nms with
 |⟨t1,i1,[],0⟩,⟨t2,i2,[],0⟩,[x1,x2]=>isT (okScope k.names sc [x1,x2] []) fun h1=>isE (isSet i1) fun f1=>(A k i1).on fun h3=>isT (okTgC false [x1] t1) fun h4=>isT (okTgC false [x2] t2) fun h5=>isE (isSet i2) fun f2=>
   (B (inC k [x1,x2] sc) i2).on fun h6=>(L (inC k [x1,x2] sc) el).on fun h7=>.ok (no_implicit_lambda% snd_comp2 G @h1 f1 @h3 @h4 @h5 f2 @h6 @h7)
 |_,_,_=>none)
noncomputable def k_val (x:X)(A:KX cx ch N x):KT cx ch N (.val x):=fun k e=>isT (plainT e) fun h=>(A k e).on fun h1=>.ok (no_implicit_lambda% tst_val @h @h1)
noncomputable def k_not (t:T)(A:KT cx ch N t):KT cx ch N (.not t):=fun k e=>onUn e fun o x p=>match o with |.Not=>(A k x).on fun h=>.ok (no_implicit_lambda% tst_not @h) |_=>none
noncomputable def k_and (ts:List T)(A:KTs cx ch N ts):KT cx ch N (.and ts):=fun k e=>onBool e fun o es p=>match o with |.And=>(A k es).on fun h=>.ok (no_implicit_lambda% tst_and @h) |.Or=>none
noncomputable def k_or (ts:List T)(A:KTs cx ch N ts):KT cx ch N (.or ts):=fun k e=>onBool e fun o es p=>match o with |.Or=>(A k es).on fun h=>.ok (no_implicit_lambda% tst_or @h) |.And=>none
noncomputable def k_itT (c a b:T)(D:KT cx ch N c)(A:KT cx ch N a)(B:KT cx ch N b):KT cx ch N (.ite c a b):=fun k e=>onIf e fun t x y p=>(D k t).on fun h0=>(A k x).on fun h1=>(B k y).on fun h2=>.ok (no_implicit_lambda% tst_ite @h0 @h1 @h2)
noncomputable def k_cmT (a:X)(ops:List COp)(xs:List X)(A:KX cx ch N a)(B:KL cx ch N xs):KT cx ch N (.cmp a ops xs):=fun k e=>onCmp e fun l os rs p=>isP (os=ops.map copOf) fun h=>isE (lastMarks (ops.map copOf) rs) fun h2=>(A k l).on fun h4=>(B.2 k ops rs).on fun h5=>.ok (no_implicit_lambda% tst_cmpE G @h @h2 @h4 @h5)
noncomputable def k_nil:KL cx ch N []:=⟨fun ω es=>on0 es (.ok .nil),fun ω ω ω=>none⟩
noncomputable def k_cons (x:X)(r:List X)(A:KX cx ch N x)(R:KL cx ch N r):KL cx ch N (x::r):=⟨fun k es=>onC es fun e es=>isE (isStar e) fun h0=>(A k e).on fun h=>(R.1 k es).on fun h1=>.ok (.cons @h0 @h @h1),fun k ops es=>match r,ops,es,R with
 | [],[_],[e],_=>(A k e).on fun h=>.ok (no_implicit_lambda% SndCh.one @h)
 |_::_,_::o::ops,e::f::es,R=>(A k e).on fun h=>(R.2 k (o::ops) (f::es)).on fun h1=>.ok (no_implicit_lambda% SndCh.cons @h @h1)
 |_,_,_,_=>none⟩
noncomputable def k_nilT:KTs cx ch N []:=fun ω es=>on0 es (.ok .nil)
noncomputable def k_consT (t:T)(r:List T)(A:KT cx ch N t)(R:KTs cx ch N r):KTs cx ch N (t::r):=fun k es=>onC es fun e es=>(A k e).on fun h=>(R k es).on fun h1=>.ok (.cons @h @h1)
end
noncomputable def chkX (k:SC)(x:X)(e:PySem.Expr):Chk (SndX cx ch N k x e):=X.rec (motive_1:=KX cx ch N) (motive_2:=KT cx ch N) (motive_3:=KL cx ch N) (motive_4:=KTs cx ch N)
 k_loc (k_glo G) k_cst k_bin k_neg (k_cmp G) k_andv k_ite k_tup k_lst k_dct k_sub k_slc k_rev (k_att G) (k_fn G C) (k_mk G C hN) (k_mth G C) (k_len G) (k_isi G) (k_byt G) (k_dcp G) k_toB (k_frB G) k_bitl k_join (k_comp G) (k_comp2 G)
 k_val k_not k_and k_or k_itT (k_cmT G) k_nil k_cons k_nilT k_consT x k e
noncomputable def chkT (k:SC)(t:T)(e:PySem.Expr):Chk (SndT cx ch N k t e):=T.rec (motive_1:=KX cx ch N) (motive_2:=KT cx ch N) (motive_3:=KL cx ch N) (motive_4:=KTs cx ch N)
 k_loc (k_glo G) k_cst k_bin k_neg (k_cmp G) k_andv k_ite k_tup k_lst k_dct k_sub k_slc k_rev (k_att G) (k_fn G C) (k_mk G C hN) (k_mth G C) (k_len G) (k_isi G) (k_byt G) (k_dcp G) k_toB (k_frB G) k_bitl k_join (k_comp G) (k_comp2 G)
 k_val k_not k_and k_or k_itT (k_cmT G) k_nil k_cons k_nilT k_consT t k e
noncomputable def chkTs (k:SC)(ts:List T)(es:List PySem.Expr):Chk (SndTs cx ch N k ts es):=List.rec (motive:=KTs cx ch N) k_nilT (fun t r R=>k_consT t r (fun k e=>chkT G C hN k t e) R) ts k es
end
end Internal
end
section
open PySem PySem.W PySem.Calls PyProof.Rows
set_option maxRecDepth 100000
namespace Internal
section
variable {prog:Program}{w:World}{A:Around}{E:Value→Shared→Prop}{s:Shared}
theorem draw_list {it t:Addr}{items:Array Value}(hne:t≠it):∀(n i:Nat) (s:Shared) (Q:List Value→Shared→Prop),s.heap.IsListIter it t i→s.heap.IsList t items→i+n≤items.size→
  (∀h',h'.IsListIter it t (i+n)→Heap.SameBut it s.heap h'→Q ((items.toList.drop i).take n) {s with heap:=h'})→wpAny (model prog w) A (draw (.ref it) n) Q E s
 |0,i,s,Q,hit,_,_,hQ=>by
  show wpAny _ _ (pure []) Q E s
  exact wpAny_pure (by simpa using hQ s.heap hit (Heap.SameBut.refl ..))
 |n+1,i,s,Q,hit,ht,hle,hQ=>by
  have hlt:i<items.size:=by lia
  show wpAny _ _ (pyNext (.ref it) >>= _) Q E s
  refine wpAny_bind (wpAny_pyNext_list_item hit ht (x:=items[i]) (by simp [hlt]) fun h₁ hit₁ hs₁=>?_)
  refine wpAny_bind (wpAny_holding (draw_list hne n (i+1) _ _ hit₁ (ht.extBut hs₁.extBut hne) (by lia) fun h₂ hit₂ hs₂=>wpAny_pure ?_))
  have hd:items.toList.drop i=items[i]::items.toList.drop (i+1):=by simp [List.drop_eq_getElem_cons,hlt]
  have:=hQ h₂ (by rw [show i+(n+1)=i+1+n by lia];exact hit₂) (hs₁.trans hs₂)
  rw [hd,List.take_succ_cons] at this
  exact this
theorem unpackItems_list {t:Addr}{items:Array Value}{Q:List Value→Shared→Prop}(hh:A.handled=none)(ht:s.heap.IsList t items)
  (hQ:∀h',Heap.ExtBut s.heap.objs.size s.heap h'→Q items.toList {s with heap:=h'}):wpAny (model prog w) A (unpackItems (.ref t) items.size none) Q E s:=by
 have hlt:t≠s.heap.objs.size:=by obtain ⟨o,ho,_⟩:=ht;exact Nat.ne_of_lt (Heap.lt_size ho)
 unfold unpackItems
 refine wpAny_bind ?_
 ·unfold notIterableAtAll
  refine wpAny_bind (wpAny_specialOf ht.typeIs slot_list_iter.lookup ?_)
  refine wpAny_pure ?_
  simp only [Bool.false_eq_true,if_false]
  refine wpAny_bind (wpAny_holding (wpAny_pyIter_list ht ?_))
  refine wpAny_bind (wpAny_holding (draw_list hlt items.size 0 _ _ ⟨_,Heap.get?_push_size _ rfl,rfl,rfl⟩ (ht.at fun o e=>Heap.get?_push_of_some _ e) (by lia) fun h₁ hit₁ hs₁=>?_))
  have hall:List.take items.size (List.drop 0 items.toList)=items.toList:=by
   rw [List.drop_zero];exact List.take_of_length_le (by simp)
  rw [hall]
  rw [if_neg (by simp)]
  have ht₁:h₁.IsList t items:=(ht.at fun o e=>Heap.get?_push_of_some _ e).extBut hs₁.extBut hlt
  refine wpAny_bind (wpAny_holding (wpAny_pyNext_list_end hh hit₁ ht₁ (by simp) fun h₂ he₂=>?_))
  simp only [Option.isSome_none,Bool.false_eq_true,if_false]
  refine wpAny_pure (hQ h₂ fun b o hb e=>he₂ b o hb (hs₁.extBut b o hb (Heap.get?_push_of_some _ e)))
end
structure StA (k:SC)(A:Around)(N:Nat)(env:Env)(envs:List Env)(F0:List Ns1)(aux0:List (Addr×Obj))(m:PySem.Str→Option Value)(ca:List (Addr×Obj))(μ:List V):Prop where
 at_:At k A N env envs ((env.locals,m)::F0) (ca++aux0) m ca μ
 ca:ca=[]∨∃c o,ca=[(c,o)]∧(∃ov,o.data=.cell ov)∧c∉aux0.map (·.1)
 inj:∀x y c,env.cells.lookup x=some c→env.cells.lookup y=some c→x=y
section
variable {cx:Cx}{ch:Ch}{N:Nat}{k:SC}{e:PySem.Expr}{A:Around}{n:Nat}{env:Env}{envs:List Env}{F F0:List Ns1}{aux aux0 aux1 ca ca':List (Addr×Obj)}{m m':PySem.Str→Option Value}{μ:List V}{σ:Sto}{s g:Shared}{Q:PX}{E:PE}
theorem nodup_at:∀{l:List String},l.Nodup→∀{i j:Nat} {x:String},l[i]? = some x→l[j]? = some x→i=j
 | [],_,i,_,_,h,_=>by cases h
 |y::r,n,i,j,x,h1,h2=>by
  obtain ⟨n1,n2⟩:=List.nodup_cons.mp n
  cases i with
  |zero=>cases j with
   |zero=>rfl
   |succ j=>simp only [List.getElem?_cons_zero,Option.some.injEq,List.getElem?_cons_succ] at h1 h2;subst h1;exact absurd (List.mem_of_getElem? h2) n1
  |succ i=>cases j with
   |zero=>simp only [List.getElem?_cons_zero,Option.some.injEq,List.getElem?_cons_succ] at h1 h2;subst h2;exact absurd (List.mem_of_getElem? h1) n1
   |succ j=>rw [nodup_at n2 (i:=i) (j:=j) (by simpa using h1) (by simpa using h2)]
theorem Loc.setL {nm:List String}(L:Loc env nm μ m ca){i:Nat}{x:String}{v:Value}{a:V}(hx:nm[i]? = some x)(hk:env.kindOf (Str.ofString x)=some .local)(r:VR v a):Loc env nm (μ.set i a) (fun y=>if y=Str.ofString x then some v else m y) ca where
 len:=by rw [List.length_set];exact L.len
 nd:=L.nd
 at_:=fun j y b hy hb=>by
  by_cases q:j=i
  ·subst q
   rw [hx] at hy;cases hy
   rw [List.getElem?_set_self (by rw [L.len];exact (List.getElem?_eq_some_iff.mp hx).1)] at hb
   cases hb
   exact .inl ⟨hk,.inr ⟨v,if_pos rfl,r⟩⟩
  ·rw [List.getElem?_set_ne (fun z=>q z.symm)] at hb
   have ne:Str.ofString y≠Str.ofString x:=fun z=>by
    have e:=ofString_inj z
    subst e
    exact q (nodup_at L.nd hy hx)
   simp only [ne,if_false]
   exact L.at_ j y b hy hb
theorem Loc.setC {nm:List String}{c:Addr}{o o':Obj}(L:Loc env nm μ m [(c,o)])(inj:∀x y c,env.cells.lookup x=some c→env.cells.lookup y=some c→x=y){i:Nat}{x:String}{v:Value}{a:V}(hx:nm[i]? = some x)
  (hk:env.kindOf (Str.ofString x)=some .cell)(hc:env.cells.lookup (Str.ofString x)=some c)(hd:o'.data=.cell (some v))(r:VR v a):Loc env nm (μ.set i a) m [(c,o')] where
 len:=by rw [List.length_set];exact L.len
 nd:=L.nd
 at_:=fun j y b hy hb=>by
  by_cases q:j=i
  ·subst q
   rw [hx] at hy;cases hy
   rw [List.getElem?_set_self (by rw [L.len];exact (List.getElem?_eq_some_iff.mp hx).1)] at hb
   cases hb
   exact .inr ⟨.inl hk,c,o',some v,hc,by simp,hd,.inr ⟨v,rfl,r⟩⟩
  ·rw [List.getElem?_set_ne (fun z=>q z.symm)] at hb
   have ne:Str.ofString y≠Str.ofString x:=fun z=>by
    have e:=ofString_inj z
    subst e
    exact q (nodup_at L.nd hy hx)
   rcases L.at_ j y b hy hb with h |⟨hk',c',o'',ov,h1,h2,h3,h4⟩
   ·exact .inl h
   ·exfalso
    rw [List.mem_singleton] at h2;cases h2
    exact ne (inj _ _ _ h1 hc)
theorem StA.set (S:StA k A N env envs F0 aux0 m ca μ){μ':List V}(L:Loc env k.nm μ' m' ca):StA k A N env envs F0 aux0 m' ca μ' where
 at_:={S.at_ with top:=⟨F0,rfl⟩,loc:=L,eo:=⟨fun en he=>(S.at_.eo.ok en he)⟩}
 ca:=S.ca
 inj:=S.inj
theorem StA.setC (S:StA k A N env envs F0 aux0 m ca μ){μ':List V}(L:Loc env k.nm μ' m ca')(hc:ca'=[]∨∃c o,ca'=[(c,o)]∧(∃ov,o.data=.cell ov)∧c∉aux0.map (·.1)):StA k A N env envs F0 aux0 m ca' μ' where
 at_:={S.at_ with top:=⟨F0,rfl⟩,loc:=L,cas:=fun q hq=>List.mem_append_left _ hq}
 ca:=hc
 inj:=S.inj
theorem StA.auxs (S:StA k A N env envs F0 aux0 m ca μ)(h:∀c∈ca.map (·.1),c∉aux1.map (·.1)):StA k A N env envs F0 aux1 m ca μ where
 at_:={S.at_ with cas:=fun q hq=>List.mem_append_left _ hq}
 ca:=by
  rcases S.ca with r |⟨c,o,rfl,hd,_⟩
  ·exact .inl r
  ·exact .inr ⟨c,o,rfl,hd,h c (by simp)⟩
 inj:=S.inj
theorem StA.nca (S:StA k A N env envs F0 aux0 m ca μ):∀c∈ca.map (·.1),c∉aux0.map (·.1):=
 S.ca.elim (fun r=>r▸fun ω hc=>absurd hc List.not_mem_nil) fun ⟨_,_,r,_,n⟩=>r▸fun ω hc=>List.mem_singleton.mp hc▸n
theorem StA.less (S:StA k A N env envs F0 aux0 m ca μ)(h:∀q∈aux1,q∈aux0):StA k A N env envs F0 aux1 m ca μ:=
 S.auxs fun c hc z=>S.nca c hc (List.map_subset _ h z)
theorem sto_loc {M:Model}(S:StA k A N env envs F0 aux0 m ca μ)(J:Inv cx ((env.locals,m)::F0) (ca++aux0) σ s.heap){i:Nat}{x:String}{v:Value}{a:V}(hx:k.nm[i]? = some x)
  (hk:env.kindOf (Str.ofString x)=some .local∨env.kindOf (Str.ofString x)=some .cell)(hi:i<μ.length)(r:VR v a){P:Unit→Shared→Prop}{E:Value→Shared→Prop}
  (hP:∀m' ca' h' tk,StA k A N env envs F0 aux0 m' ca' (μ.set i a)→Inv cx ((env.locals,m')::F0) (ca'++aux0) σ h'→P () {s with heap:=h',toks:=tk}):wpAny M A (storeName env (Str.ofString x) v) P E s:=by
 rcases hk with hk |hk
 ·refine wpAny_storeName_local hk (J.ns _ (.head _)).1 (fun h' n' sb=>?_) (by rw [S.at_.kind];rfl)
  exact hP _ ca h' _ (S.set (S.at_.loc.setL hx hk r)) (J.top (fun b o hb e=>sb.extBut b o hb e) n')
 ·have hμ:μ[i]? = some μ[i]:=List.getElem?_eq_getElem hi
  rcases S.at_.loc.at_ i x _ hx hμ with ⟨hk',_⟩ |⟨_,c,o,ov,hc,hm,hd,_⟩
  ·rw [hk] at hk';cases hk'
  ·rcases S.ca with rr |⟨c',o',rr,hd',n⟩
   ·rw [rr] at hm;cases hm
   ·subst rr
    rw [List.mem_singleton] at hm;cases hm
    have hcell:s.heap.IsCell c ov:=⟨o,(J.auxs _ (.head _)).1,hd⟩
    refine wpAny_storeName_cell S.at_.kind hk hc hcell fun h' ic sb=>?_
    obtain ⟨o2,g2,d2⟩:=ic
    have J2:Inv cx ((env.locals,m)::F0) ([(c,o2)]++aux0) σ h':=Inv.aux_set (ia:=[(c,o)]) J (fun b ob hb e=>sb.extBut b ob (by simpa using hb) e)
     (fun q hq=>by rw [List.mem_singleton.mp hq];unfold pin;rw [hd]) (fun q hq z=>n (by
      simp only [List.map_cons,List.map_nil,List.mem_singleton] at z
      exact z▸List.mem_map.mpr ⟨q,hq,rfl⟩)) (fun q hq=>by rw [List.mem_singleton.mp hq];exact ⟨g2,.inl (by simp)⟩)
    exact hP m [(c,o2)] h' s.toks (S.setC (S.at_.loc.setC S.inj hx hk hc d2 r) (.inr ⟨c,o2,rfl,⟨_,d2⟩,n⟩)) J2
end
noncomputable def isLocK (k:SC)(s:PySem.Str):Bool:=match k.names.lookup s with |some .local |some .cell=>true |_=>false
noncomputable def swpN (k:SC)(ts vs:List PySem.Expr):Option (List PySem.Str):=
 if !(ts.length==2||ts.length==3)||vs.length != ts.length then none else
 let line:=(ts.head?.map (·.pos.line)).getD 0
 let names:=ts.filterMap fun
  |.Name id pos=>if k.names.lookup id==some .local&&pos.line==line then some id else none
  |_=>none
 if names.length != ts.length||names.eraseDups.length != names.length then none else some names
noncomputable def okSw (k:SC)(tg value:PySem.Expr):Bool:=match value with
 |.SetComp .. |.DictComp ..=>false
 |.Tuple vs _ _=>(match tg with
  |.Tuple ts _ _=>(match swpN k ts vs with |none=>true |some ns=>decide ns.Nodup&&(vs.all (foldedForSure 8)||!(vs.all (constantsAlone 8))))
  |_=>true)
 |_=>true
noncomputable def isComp:X→Bool
 |.comp .. |.comp2 ..=>true
 |_=>false
noncomputable def isLC:PySem.Expr→Bool
 |.ListComp .. |.SetComp .. |.DictComp ..=>true
 |_=>false
noncomputable def okHd:Hd→List PySem.Stmt→Bool
 |.retNone,[.Return (some (.Constant .none _ _)) _]=>true
 |.cont,[.Continue _]=>true
 |_,_=>false
end Internal
end
section
open PySem PySem.W PySem.Calls PyProof.Rows
set_option maxRecDepth 100000
namespace Internal
inductive PSu (cx:Cx)(k:SC)(A:Around)(N:Nat)(env:Env)(envs:List Env)(F0:List Ns1)(aux0:List (Addr×Obj))(g:Shared)(Q:List V→Sto→Prop)(s':Shared):Prop
 |mk (m:PySem.Str→Option Value) (ca:List (Addr×Obj)) (μ:List V) (σ:Sto):StA k A N env envs F0 aux0 m ca μ→SS g s'→Inv cx ((env.locals,m)::F0) (ca++aux0) σ s'.heap→Q μ σ→PSu cx k A N env envs F0 aux0 g Q s'
noncomputable def PFl (Q:PS)(fl:Flow)(μ:List V)(σ:Sto):Prop:=match fl with |.next=>Q .next μ σ |.cont=>Q .cont μ σ |.brk=>Q .brk μ σ |.ret v=>∃a,VR v a∧Q (.ret a) μ σ
inductive PSt (cx:Cx)(k:SC)(A:Around)(N:Nat)(env:Env)(envs:List Env)(F0:List Ns1)(aux0:List (Addr×Obj))(g:Shared)(Q:PS)(fl:Flow)(s':Shared):Prop
 |mk (m:PySem.Str→Option Value) (ca:List (Addr×Obj)) (μ:List V) (σ:Sto):StA k A N env envs F0 aux0 m ca μ→SS g s'→Inv cx ((env.locals,m)::F0) (ca++aux0) σ s'.heap→PFl Q fl μ σ→PSt cx k A N env envs F0 aux0 g Q fl s'
theorem PSu.st {cx k A N env envs F0 aux0 g s'}{Q:PS}(p:PSu cx k A N env envs F0 aux0 g (Q .next) s'):PSt cx k A N env envs F0 aux0 g Q .next s':=let ⟨m,ca,μ,σ,a,b,c,d⟩:=p;⟨m,ca,μ,σ,a,b,c,d⟩
inductive PExS (cx:Cx)(k:SC)(A:Around)(N:Nat)(env:Env)(envs:List Env)(F0:List Ns1)(aux0:List (Addr×Obj))(g:Shared)(t:Bool)(E:PEs)(v:Value)(s':Shared):Prop
 |mk (e:Addr) (c:Nat) (μ:List V) (σ:Sto) (m:PySem.Str→Option Value) (ca:List (Addr×Obj)):v=.ref e→SS g s'→StA k A N env envs F0 aux0 m ca μ→Fly cx ((env.locals,m)::F0) (ca++aux0) σ envs e (.ref (clsAddr c)) t s'.heap→c=0∨c=1→E c μ σ→PExS cx k A N env envs F0 aux0 g t E v s'
section
variable (cx:Cx)(ch:Ch)(N:Nat)
noncomputable def SndG (k:SC)(t:Tg)(e:PySem.Expr):Prop:=∀{A env envs F0 aux0 m ca μ σ} {s g:Shared} {v a} {Q:List V→Sto→Prop} {E:PEs},StA k A N env envs F0 aux0 m ca μ→SS g s→Inv cx ((env.locals,m)::F0) (ca++aux0) σ s.heap→VR v a→wpTg ch t a μ σ Q E→
 wpAny cx.M A (assign e env v) (fun ω s'=>PSu cx k A N env envs F0 aux0 g Q s') (PExS cx k A N env envs F0 aux0 g true E) s
noncomputable def SndS (k:SC)(t:S)(e:PySem.Stmt):Prop:=∀{A env envs F0 aux0 m ca μ σ} {s g:Shared} {Q:PS} {E:PEs},StA k A N env envs F0 aux0 m ca μ→SS g s→Inv cx ((env.locals,m)::F0) (ca++aux0) σ s.heap→wpS ch t μ σ Q E→
 wpAny cx.M A (exec e env) (PSt cx k A N env envs F0 aux0 g Q) (PExS cx k A N env envs F0 aux0 g false E) s
inductive SndGs (k:SC):List Tg→List PySem.Expr→Prop
 |nil:SndGs k [] []
 |cons {t r e es}:isStar e=false→SndG cx ch N k t e→SndGs k r es→SndGs k (t::r) (e::es)
inductive SndSs (k:SC):List S→List PySem.Stmt→Prop
 |nil:SndSs k [] []
 |cons {t r e es}:SndS cx ch N k t e→SndSs k r es→SndSs k (t::r) (e::es)
 |frz {i r es}:SndSs k r es→SndSs k (.frz i::r) es
end
section
variable {cx:Cx}{ch:Ch}{N:Nat}{k:SC}{e:PySem.Expr}{A:Around}{n:Nat}{env:Env}{envs:List Env}{F F0:List Ns1}{aux aux0 aux1 ca ca':List (Addr×Obj)}{m m':PySem.Str→Option Value}{μ:List V}{σ:Sto}{s g:Shared}{Q:PX}{E:PEs}{t:Bool}
theorem PEx.toS {v:Value}{s':Shared}(S:StA k A N env envs F0 aux0 m ca μ)(x:PEx cx ((env.locals,m)::F0) (ca++aux0) envs g t (fun c σ=>E c μ σ) v s'):PExS cx k A N env envs F0 aux0 g t E v s':=
 let ⟨e,c,σ',a,b,f,d,z⟩:=x;⟨e,c,μ,σ',m,ca,a,b,S,f,d,z⟩
theorem PExS.weak {v:Value}{s':Shared}(x:PExS cx k A N env envs F0 aux0 g true E v s'):PExS cx k A N env envs F0 aux0 g t E v s':=
 let ⟨e,c,μ,σ',m,ca,a,b,S,f,d,z⟩:=x;⟨e,c,μ,σ',m,ca,a,b,S,f.weak,d,z⟩
theorem PExS.from {g':Shared}{v:Value}{s':Shared}(x:PExS cx k A N env envs F0 aux0 g t E v s')(h:SS g' g):PExS cx k A N env envs F0 aux0 g' t E v s':=
 let ⟨e,c,μ,σ',m,ca,a,b,S,f,d,z⟩:=x;⟨e,c,μ,σ',m,ca,a,h.trans b,S,f,d,z⟩
theorem PExS.less {v:Value}{s':Shared}(x:PExS cx k A N env envs F0 aux0 g t E v s')(h:∀q∈aux1,q∈aux0):PExS cx k A N env envs F0 aux1 g t E v s':=
 let ⟨e,c,μ,σ',m,ca,a,b,S,f,d,z⟩:=x;⟨e,c,μ,σ',m,ca,a,b,S.less h,f.sub (by simp) (List.Sublist.refl _) (fun q hq=>by
  rcases List.mem_append.mp hq with r |r
  ·exact List.mem_append_left _ r
  ·exact List.mem_append_right _ (h q r)),d,z⟩
theorem PExS.noted {v:Value}{s':Shared}(S:StA k A N env envs F0 aux0 m ca μ)(x:PExS cx k A N env envs F0 aux0 g t E v s'){E':Value→Shared→Prop}(hE:∀v s',PExS cx k A N env envs F0 aux0 g true E v s'→E' v s'):notedBy cx.M A env E' v s':=by
 obtain ⟨e,c,μ,σ',m,ca,rfl,b,S',f,d,z⟩:=x
 obtain ⟨env',outer,L,rfl,hf,hf'⟩:=S.at_.frm
 exact note_ok S.at_.stk hf hf' f fun h' Y=>hE _ _ ⟨e,c,μ,σ',m,ca,rfl,b.trans ⟨rfl,rfl,rfl⟩,S',Y,d,z⟩
theorem PExS.came {v:Value}{s':Shared}(x:PExS cx k A N env envs F0 aux0 g true E v s'){E':Value→Shared→Prop}(hE:∀v s',PExS cx k A N env envs F0 aux0 g true E v s'→E' v s'):cameBackBy cx.M A env E' v s':=by
 obtain ⟨e,c,μ,σ',m,ca,rfl,b,S',f,d,z⟩:=x
 exact cameBack_any f fun h' Y=>hE _ _ ⟨e,c,μ,σ',m,ca,rfl,b.trans ⟨rfl,rfl,rfl⟩,S',Y,d,z⟩
set_option tactic.hygienic true in
theorem isLocK_of (T:StA k A N env envs F0 aux0 m ca μ){z:PySem.Str}(ok:isLocK k z=true):env.kindOf z=some .local∨env.kindOf z=some .cell:=by
 unfold Env.kindOf;rw [T.at_.names]
 unfold isLocK at ok
 split at ok
 ·rename_i h;exact .inl h
 ·rename_i h;exact .inr h
 ·cases ok
theorem SndGs.len {ts:List Tg}{es:List PySem.Expr}(h:SndGs cx ch N k ts es):ts.length=es.length:=by
 induction h with
 |nil=>rfl
 |cons _ _ _ ih=>exact congrArg (· + 1) ih
theorem each_cons {v:PySem.Expr}(es:List PySem.Expr)(h:isStar v=false):assignEach (v::es) env=(false,assign v env)::assignEach es env:=by
 cases v<;>first |rfl |cases h
theorem eachT_len {ts:List Tg}{es:List PySem.Expr}(h:SndGs cx ch N k ts es):(assignEach es env).length=es.length∧(assignEach es env).findIdx? (·.1)=none:=by
 induction h with
 |nil=>exact ⟨rfl,rfl⟩
 |cons hs _ _ ih=>
  rw [each_cons _ hs]
  exact ⟨congrArg (· + 1) ih.1,by rw [List.findIdx?_cons];simp [ih.2]⟩
theorem wpU {M:Model}{t:Sem Unit}{P':Unit→Shared→Prop}{E':Value→Shared→Prop}{Q:List V→Sto→Prop}(h:wpAny M A t (fun ω s'=>PSu cx k A N env envs F0 aux0 g Q s') E' s)
  (f:∀s₁ m ca μ σ,StA k A N env envs F0 aux0 m ca μ→SS g s₁→Inv cx ((env.locals,m)::F0) (ca++aux0) σ s₁.heap→Q μ σ→P' () s₁):wpAny M A t P' E' s:=
 wpAny_mono h (fun ω s₁ p=>p.casesOn (motive:=fun ω=>P' () s₁) fun m ca μ σ a b c d=>f s₁ m ca μ σ a b c d) fun ω ω x=>x
theorem tgs_ok {ts:List Tg}{es:List PySem.Expr}(h:SndGs cx ch N k ts es):∀{vals:List Value} {vs:List V} {m ca μ σ} {s:Shared} {Q:List V→Sto→Prop},StA k A N env envs F0 aux0 m ca μ→SS g s→Inv cx ((env.locals,m)::F0) (ca++aux0) σ s.heap→
  VRs vals vs→wpTgs ch ts vs μ σ Q E→wpAny cx.M A (assignInOrder ((assignEach es env).map (·.2)) vals) (fun ω s'=>PSu cx k A N env envs F0 aux0 g Q s') (PExS cx k A N env envs F0 aux0 g true E) s:=by
 induction h with
 |nil=>
  intro vals vs m ca μ σ s Q S ss J r q
  cases r with
  |cons=>exact q.elim
  |nil=>exact wpAny_pure ⟨m,ca,μ,σ,S,ss,J,q⟩
 |cons hs ht _ ih=>
  intro vals vs m ca μ σ s Q S ss J r q
  cases r with
  |nil=>exact q.elim
  |cons r rs=>
   rw [each_cons _ hs]
   exact wpAny_bind (wpAny_holding (wpU (ht S ss J r q) fun s₁ m₁ ca₁ μ₁ σ₁ S₁ ss₁ J₁ q₁=>ih S₁ ss₁ J₁ rs q₁))
theorem sg_loc {i:Nat}{z:PySem.Str}{pos:Pos}(o1:okL k i z=true)(o2:isLocK k z=true):SndG cx ch N k (.loc i) (.Name z pos):=by
 intro A env envs F0 aux0 m ca μ σ s g v a Q E S ss J r q
 obtain ⟨x,hx,rfl⟩:=okL_of o1
 exact wpAny_assign_Name (sto_loc S J hx (isLocK_of S o2) q.1 r fun m' ca' h' tk S' J'=>⟨m',ca',_,σ,S',ss.trans ⟨rfl,rfl,rfl⟩,J',q.2⟩)
theorem assign_Sub {M:Model}{o i:PySem.Expr}{pos:Pos}{v:Value}{P:Unit→Shared→Prop}{E:Value→Shared→Prop}(h:wpAny M A (eval o env) (fun ov s₂=>wpAny M A (eval i env) (fun iv s₃=>wpAny M A (setItem ov iv v) P E s₃) E s₂) E s) :
  wpAny M A (assign (.Subscript o i pos) env v) P E s:=by
 have e:∃f:Value→Value→List Value,assign (.Subscript o i pos) env v=(holding [v] (eval o env) >>= fun ov=>holding [v,ov] (eval i env) >>= fun iv=>standAt pos >>= fun ω=>holding [v,ov,iv] (setItem ov iv v) >>= fun ω=>release (f ov iv) []):=⟨_,rfl⟩
 obtain ⟨f,e⟩:=e
 rw [e]
 exact wpAny_bind (wpAny_holding (wpE h fun ov s₂ h₂=>wpAny_bind (wpAny_holding (wpE h₂ fun iv s₃ h₃=>wpAny_bind (wpAny_standAt (wpAny_bind (wpAny_holding (wpE h₃ fun ω s₄ h₄=>wpAny_release h₄))))))))
theorem assign_Att {M:Model}{o:PySem.Expr}{x:PySem.Str}{pos:Pos}{v:Value}{P:Unit→Shared→Prop}{E:Value→Shared→Prop}(h:wpAny M A (eval o env) (fun ov s₂=>wpAny M A (setAttr ov x v) P E s₂) E s) :
  wpAny M A (assign (.Attribute o x pos) env v) P E s:=by
 show wpAny M A (holding [v] (eval o env) >>= fun ov=>standAt pos.atName >>= fun ω=>holding [v,ov] (setAttr ov x v) >>= fun ω=>release [v,ov] []) P E s
 exact wpAny_bind (wpAny_holding (wpE h fun ov s₂ h₂=>wpAny_bind (wpAny_standAt (wpAny_bind (wpAny_holding (wpE h₂ fun ω s₄ h₄=>wpAny_release h₄))))))
theorem wpVS {M:Model}{t:Sem Value}{P':Value→Shared→Prop}{E':Value→Shared→Prop}{Q:PX}{F:List Ns1}{aux:List (Addr×Obj)}{t':Bool}{E:PE}(h:wpAny M A t (PV cx F aux g Q) (PEx cx F aux envs g t' E) s)
  (f:∀v s₁ a σ₁,SS g s₁→VR v a→Inv cx F aux σ₁ s₁.heap→Q a σ₁→P' v s₁)(fe:∀v s',PEx cx F aux envs g t' E v s'→E' v s'):wpAny M A t P' E' s:=
 wpAny_mono h (fun v s₁ p=>p.casesOn (motive:=fun ω=>P' v s₁) fun a σ₁ b c d e=>f v s₁ a σ₁ b c d e) fe
theorem sg_sub {o i:X}{oe ie:PySem.Expr}{pos:Pos}(ho:SndX cx ch N k o oe)(hi:SndX cx ch N k i ie):SndG cx ch N k (.sub o i) (.Subscript oe ie pos):=fun S ss J r q=>
 assign_Sub (wpVS (ho S.at_ ss J q) (fun ω ω ω ω ss₁ rb J₁ q₁=>wpVS (hi S.at_ ss₁ J₁ q₁) (fun ω ω ω ω ss₂ rd J₂ q₂=>wpE (setI_ok J₂ rb rd r q₂) fun ω s₃ p=>by
  obtain ⟨σ₃,ss₃,J₃,q₃⟩:=p
  exact ⟨_,_,_,σ₃,S,ss₂.trans ss₃,J₃,q₃⟩) fun v s' x=>x.toS S) fun v s' x=>x.toS S)
theorem sg_att (G:Good3 cx){o:X}{nm:String}{oe:PySem.Expr}{pos:Pos}(ho:SndX cx ch N k o oe):SndG cx ch N k (.att o nm) (.Attribute oe (Str.ofString nm) pos):=fun S ss J r q=>
 assign_Att (wpVS (ho S.at_ ss J q) (fun ω ω ω ω ss₁ rb J₁ q₁=>wpE (setA_ok G.toGood2 J₁ rb r q₁) fun ω s₃ p=>by
  obtain ⟨σ₃,ss₃,J₃,q₃⟩:=p
  exact ⟨_,_,_,σ₃,S,ss₁.trans ss₃,J₃,q₃⟩) fun v s' x=>x.toS S)
theorem sg_tup {ts:List Tg}{es:List PySem.Expr}{c:Nat}{pos:Pos}(ok:SndGs cx ch N k ts es):SndG cx ch N k (.tup ts) (.Tuple es c pos):=by
  intro A env envs F0 aux0 m ca μ σ s g v a Q E S ss J r q
  obtain ⟨b,vs,rfl,hs,hl,q⟩:=q
  have:=r.ref';subst this
  have el:=eachT_len (env:=env) ok
  have tl:=ok.len
  rw [PyProof.Rows.assign_Tuple]
  refine wpAny_bind (wpAny_standAt ?_)
  have fin:∀{cvs:Array Value} {h':Heap},VRs cvs.toList vs→Heap.ExtBut s.heap.objs.size s.heap h'→wpAny cx.M A (assignInOrder ((assignEach es env).map (·.2)) cvs.toList) (fun ω s'=>PSu cx k A N env envs F0 aux0 g Q s') (PExS cx k A N env envs F0 aux0 g true E) {s with heap:=h'}:=fun {cvs h'} rv eb=>
   tgs_ok ok S (ss.trans ⟨rfl,rfl,rfl⟩) (J.keep (h':=h') (fun b ob e=>eb b ob (Nat.ne_of_lt (Heap.lt_size e)) e)) rv q
  unfold unpack
  rcases hs with e |⟨mm,e⟩
  ·obtain ⟨cvs,ht,rv⟩:=J.sto _ _ e
   have hs:=rv.length
   rw [Array.length_toList] at hs
   have hn:(assignEach es env).length=cvs.size:=by lia
   rw [hn,el.2]
   exact wpAny_bind (wpAny_holding (PyProof.Rows.unpackItems_tuple S.at_.ao.hd ht fun h' eb=>fin rv eb))
  ·obtain ⟨cvs,ht,rv,_⟩:=J.sto _ _ e
   have hs:=rv.length
   rw [Array.length_toList] at hs
   have hn:(assignEach es env).length=cvs.size:=by lia
   rw [hn,el.2]
   exact wpAny_bind (wpAny_holding (unpackItems_list S.at_.ao.hd ht fun h' eb=>fin rv eb))
end
end Internal
end
section
open PySem PySem.W PySem.Calls PyProof.Rows
set_option maxRecDepth 100000
namespace Internal
section
variable {cx:Cx}{ch:Ch}{N:Nat}{k:SC}{e:PySem.Expr}{A:Around}{n:Nat}{env:Env}{envs:List Env}{F F0:List Ns1}{aux aux0 aux1 ca ca':List (Addr×Obj)}{m m':PySem.Str→Option Value}{μ:List V}{σ:Sto}{s g:Shared}{E:PEs}{t:Bool}
theorem wpSt {M:Model}{t:Sem Flow}{P':Flow→Shared→Prop}{E':Value→Shared→Prop}{Q:PS}(h:wpAny M A t (PSt cx k A N env envs F0 aux0 g Q) E' s)
  (f:∀fl s₁ m ca μ σ,StA k A N env envs F0 aux0 m ca μ→SS g s₁→Inv cx ((env.locals,m)::F0) (ca++aux0) σ s₁.heap→PFl Q fl μ σ→P' fl s₁):wpAny M A t P' E' s:=
 wpAny_mono h (fun fl s₁ p=>p.casesOn (motive:=fun ω=>P' fl s₁) fun m ca μ σ a b c d=>f fl s₁ m ca μ σ a b c d) fun ω ω x=>x
theorem ss_ok {ss':List S}{es:List PySem.Stmt}(h:SndSs cx ch N k ss' es):∀{m ca μ σ} {s:Shared} {Q:PS},StA k A N env envs F0 aux0 m ca μ→SS g s→Inv cx ((env.locals,m)::F0) (ca++aux0) σ s.heap→wpSs ch ss' μ σ Q E→
  wpAny cx.M A (execs es env) (PSt cx k A N env envs F0 aux0 g Q) (PExS cx k A N env envs F0 aux0 g false E) s:=by
 induction h with
 |nil=>exact fun S ss J q=>wpAny_execs_nil ⟨_,_,_,_,S,ss,J,q⟩
 |cons ht _ ih=>
  intro m ca μ σ s Q S ss J q
  refine wpAny_execs_cons (wpSt (ht S ss J q) fun fl s₁ m₁ ca₁ μ₁ σ₁ S₁ ss₁ J₁ q₁=>?_)
  cases fl with
  |next=>exact ih S₁ ss₁ J₁ q₁
  |cont=>exact ⟨m₁,ca₁,μ₁,σ₁,S₁,ss₁,J₁,q₁⟩
  |brk=>exact ⟨m₁,ca₁,μ₁,σ₁,S₁,ss₁,J₁,q₁⟩
  |ret v=>exact ⟨m₁,ca₁,μ₁,σ₁,S₁,ss₁,J₁,q₁⟩
 |frz _ ih=>
  intro m ca μ σ s Q S ss J q
  obtain ⟨v,_,q⟩:=q
  obtain ⟨σ',J',q⟩:=frz_ok J q
  exact ih S ss J' q
theorem inter_no (T:At k A N env envs F aux m ca μ):interactive env=false:=by unfold interactive;rw [T.kind];rfl
theorem swaps_no {v:PySem.Expr}(h:isLC v=false)(tg:Option PySem.Expr)(l:Nat):swapsWith v tg l env=pure false:=by
 cases v<;>first |rfl |cases h
theorem st_cont {pos:Pos}:SndS cx ch N k .cont (.Continue pos):=fun S ss J q=>wpAny_Continue ⟨_,_,_,_,S,ss,J,q⟩
theorem st_pass {pos:Pos}:SndS cx ch N k .pass (.Pass pos):=fun S ss J q=>wpAny_Pass ⟨_,_,_,_,S,ss,J,q⟩
theorem st_ret {x:X}{v:PySem.Expr}{pos:Pos}(hx:SndX cx ch N k x v):SndS cx ch N k (.ret x) (.Return (some v) pos):=fun S ss J q=>
 wpAny_Return_some (wpVS (hx S.at_ ss J q) (fun ω ω a ω ss₁ ra J₁ q₁=>⟨_,_,_,_,S,ss₁,J₁,a,ra,q₁⟩) fun v s' x=>(x.toS S).weak)
theorem st_ite {c:T}{a b:List S}{t:PySem.Expr}{x y:List PySem.Stmt}{pos:Pos}(hc:SndT cx ch N k c t)(ha:SndSs cx ch N k a x)(hb:SndSs cx ch N k b y):SndS cx ch N k (.ite c a b) (.If t x y pos):=fun S ss J q=>
 wpAny_If (wpAny_mono (hc S.at_ ss J q) (fun b s₁ p=>by
  cases p with |mk σ₁ ss₁ J₁ q=>
  cases b with
  |true=>exact ss_ok ha S ss₁ J₁ q
  |false=>exact ss_ok hb S ss₁ J₁ q) fun v s' x=>(x.toS S).weak)
theorem st_exp {x:X}{v:PySem.Expr}{pos:Pos}(o:isLC v=false)(hx:SndX cx ch N k x v):SndS cx ch N k (.exp x) (.Expr v pos):=fun S ss J q=>
 wpAny_Expr_any (wpVS (hx S.at_ ss J q) (fun ω ω ω ω ss₁ ω J₁ q₁=>⟨_,_,_,_,S,ss₁,J₁,q₁.2⟩) fun v s' x=>(x.toS S).weak) (inter_no S.at_) (swaps_no o _ _)
theorem st_app (G:Good3 cx){o x:X}{v y:PySem.Expr}{ap cp pos:Pos}(o2:objM v=true)(o3:ap.endLine=cp.line)(ho:SndX cx ch N k o v)(hs:isStar y=false)(hx:SndX cx ch N k x y) :
  SndS cx ch N k (.app o x) (.Expr (.Call (.Attribute v (Str.ofString "append") ap) [y] [] cp) pos):=by
 intro A env envs F0 aux0 m ca μ σ s g Q E S ss J q
 refine wpAny_Expr_any (wpM (P:=fun ω s'=>PSu cx k A N env envs F0 aux0 g (Q .next) s') (E:=PExS cx k A N env envs F0 aux0 g true E) ?_ (fun va s₁ p=>p.st) fun v s' x=>x.weak) (inter_no S.at_) (swaps_no rfl _ _)
 refine methCall o2 (by rw [star_one [] hs];rfl) (show 1<30 by decide) o3 (wpVS (ho S.at_ ss J q) (fun va s₁ a σ₁ ss₁ ra J₁ q=>?_) fun v s' x=>x.toS S)
 obtain ⟨b,vs,rfl,e,q₁⟩:=q
 have:=ra.ref';subst this
 intro pl
 obtain ⟨c,⟨ob,g1,g2,g3⟩,r,dn⟩:=J₁.sto _ _ e
 refine getMethod_list_append g1 g2 (dn rfl _ g1) ?_
 refine callWith_of (P:=cx.K.In) (by rw [star_one [] hs];rfl) keepV_b ?_
 rw [star_one [] hs]
 refine Calls.evalArgs_plain (Calls.spliced_cons (wpVS (hx S.at_ ss₁ J₁ q₁) (fun w s₂ b₂ σ₂ ss₂ rw J₂ q₂=>Calls.spliced_nil ⟨J₂.K G,wpE (app_ok J₂ (.ref b) rw q₂) fun rr s₃ p=>?_⟩) fun v s' x=>x.toS S))
 obtain ⟨_,σ₃,ss₃,J₃,q₃⟩:=p
 exact ⟨m,ca,μ,σ₃,S,ss₂.trans ss₃,J₃,q₃⟩
theorem swappedNo {tg value:PySem.Expr}(hv:∀vs c d,value≠.Tuple vs c d):swappedStores [tg] value env=pure none:=by
 cases tg<;>first |rfl |(cases value<;>first |rfl |exact absurd rfl (hv _ _ _))
theorem no_star {xs:List X}{vs:List PySem.Expr}(h:SndXs cx ch N k xs vs):(vs.any fun |.Starred ..=>true |_=>false)=false:=by
 induction h with
 |nil=>rfl
 | @cons x r e es hs _ _ ih=>
  rw [List.any_cons,ih,Bool.or_false]
  cases e<;>first |rfl |cases hs
end
end Internal
end
section
open PySem PySem.W PySem.Calls PyProof.Rows
set_option maxRecDepth 100000
namespace Internal
section
variable {cx:Cx}{ch:Ch}{N:Nat}{k:SC}{e:PySem.Expr}{A:Around}{n:Nat}{env:Env}{envs:List Env}{F F0:List Ns1}{aux aux0 aux1 ca ca':List (Addr×Obj)}{m m':PySem.Str→Option Value}{μ:List V}{σ:Sto}{s g:Shared}{E:PEs}{t:Bool}
noncomputable def swpL (k:SC)(ts:List PySem.Expr):List PySem.Str:=
 let line:=(ts.head?.map (·.pos.line)).getD 0
 ts.filterMap fun
  |.Name id pos=>if k.names.lookup id==some .local&&pos.line==line then some id else none
  |_=>none
theorem swpN_eq (ts vs:List PySem.Expr):swpN k ts vs=if (!(ts.length==2||ts.length==3)||vs.length != ts.length)=true then none else if ((swpL k ts).length != ts.length||(swpL k ts).eraseDups.length != (swpL k ts).length)=true then none else some (swpL k ts):=rfl
theorem swp_form (T:At k A N env envs F aux m ca μ){ts vs:List PySem.Expr}{c c':Nat}{d d':Pos}(hs:(vs.any fun |.Starred ..=>true |_=>false)=false) :
  swappedStores [.Tuple ts c d] (.Tuple vs c' d') env=if (!(ts.length==2||ts.length==3)||vs.length != ts.length)=true then pure none else
   if ((swpL k ts).length != ts.length||(swpL k ts).eraseDups.length != (swpL k ts).length)=true then pure none else
   if vs.all (foldedForSure 8)=true then pure none else if vs.all (constantsAlone 8)=true then unsupported "assign.tuple-of-constant-expressions:order-of-the-stores" else pure (some (swpL k ts)):=by
 have hb:env.blockKind=.function:=by unfold Env.blockKind;rw [T.kind];rfl
 have hk:(fun id=>env.kindOf id)=fun id=>k.names.lookup id:=by funext id;unfold Env.kindOf;rw [T.names]
 have e1:swappedStores [.Tuple ts c d] (.Tuple vs c' d') env=(fun (kind:PySem.Str→Option NameKind) (bk:ScopeKind) (st:Bool)=>
   if (!(ts.length==2||ts.length==3)||vs.length != ts.length||bk != .function)=true then pure none else
   if st=true then pure none else
   if ((ts.filterMap fun |.Name id pos=>if kind id==some .local&&pos.line==(ts.head?.map (·.pos.line)).getD 0 then some id else none |_=>none).length != ts.length||
    (ts.filterMap fun |.Name id pos=>if kind id==some .local&&pos.line==(ts.head?.map (·.pos.line)).getD 0 then some id else none |_=>none).eraseDups.length !=
     (ts.filterMap fun |.Name id pos=>if kind id==some .local&&pos.line==(ts.head?.map (·.pos.line)).getD 0 then some id else none |_=>none).length)=true then pure none else
   if vs.all (foldedForSure 8)=true then pure none else if vs.all (constantsAlone 8)=true then unsupported "assign.tuple-of-constant-expressions:order-of-the-stores" else
    pure (some (ts.filterMap fun |.Name id pos=>if kind id==some .local&&pos.line==(ts.head?.map (·.pos.line)).getD 0 then some id else none |_=>none)))
   (fun id=>env.kindOf id) env.blockKind (vs.any fun |.Starred ..=>true |_=>false):=by
  unfold swappedStores
  by_cases h1:(!(ts.length==2||ts.length==3)||vs.length != ts.length||env.blockKind != .function)=true
  ·simp only [h1,if_true]
  ·rfl
 rw [e1,hs,hb,hk]
 simp only [bne_self_eq_false,Bool.or_false,Bool.false_eq_true,if_false]
 rfl
theorem swp_eq (T:At k A N env envs F aux m ca μ){ts vs:List PySem.Expr}{c c':Nat}{d d':Pos}(hs:(vs.any fun |.Starred ..=>true |_=>false)=false)
  (hf:∀ns,swpN k ts vs=some ns→vs.all (foldedForSure 8)=true∨vs.all (constantsAlone 8)=false) :
  swappedStores [.Tuple ts c d] (.Tuple vs c' d') env=pure none∨∃ns,swpN k ts vs=some ns∧swappedStores [.Tuple ts c d] (.Tuple vs c' d') env=pure (some ns):=by
 rw [swp_form T hs]
 have hn:=swpN_eq (k:=k) ts vs
 by_cases h1:(!(ts.length==2||ts.length==3)||vs.length != ts.length)=true
 ·left;rw [if_pos h1]
 ·rw [if_neg h1] at hn⊢
  by_cases h2:((swpL k ts).length != ts.length||(swpL k ts).eraseDups.length != (swpL k ts).length)=true
  ·left;rw [if_pos h2]
  ·rw [if_neg h2] at hn⊢
   by_cases h4:vs.all (foldedForSure 8)=true
   ·left;rw [if_pos h4]
   ·right
    have h3:=(hf _ hn).resolve_left h4
    rw [if_neg h4,if_neg (by rw [h3];exact Bool.false_ne_true)]
    exact ⟨_,hn,rfl⟩
inductive SwpT (k:SC):List Tg→List PySem.Expr→Prop
 |nil:SwpT k [] []
 |cons {i z p tgs ts}:okL k i z=true→SwpT k tgs ts→SwpT k (.loc i::tgs) (.Name z p::ts)
theorem swp_names {f:PySem.Expr→Option PySem.Str}(hf:∀e id,f e=some id→∃p,e=.Name id p∧k.names.lookup id=some .local){tgs:List Tg}{ts:List PySem.Expr}(h:SwpT k tgs ts):(ts.filterMap f).length=ts.length→
  ∃L:List (Nat×String),tgs=L.map (fun p=>Tg.loc p.1)∧ts.filterMap f=L.map (fun p=>Str.ofString p.2)∧∀p∈L,k.nm[p.1]? = some p.2∧k.names.lookup (Str.ofString p.2)=some .local:=by
 induction h with
 |nil=>exact fun ω=>⟨[],rfl,rfl,fun p hp=>nomatch hp⟩
 | @cons i z p tgs ts o _ ih=>
  intro hl
  cases q:f (.Name z p) with
  |none=>
   rw [List.filterMap_cons,q] at hl
   have:=List.length_filterMap_le f ts
   simp only [List.length_cons] at hl
   lia
  |some id=>
   rw [List.filterMap_cons,q] at hl⊢
   obtain ⟨p',e,hk⟩:=hf _ _ q
   cases e
   obtain ⟨L,h1,h2,h3⟩:=ih (Nat.succ.inj hl)
   obtain ⟨x,hx,rfl⟩:=okL_of o
   refine ⟨(i,x)::L,by rw [h1];rfl,by rw [h2];rfl,fun p hp=>?_⟩
   rcases List.mem_cons.mp hp with rfl |hp
   ·exact ⟨hx,hk⟩
   ·exact h3 p hp
theorem binds_ok {M:Model}:∀{L:List (Nat×String)} {vals:List Value} {as:List V} {m ca μ} {s:Shared} {P:Unit→Shared→Prop} {E:Value→Shared→Prop},(∀p∈L,k.nm[p.1]? = some p.2∧k.names.lookup (Str.ofString p.2)=some .local∧p.1<μ.length)→
  VRs vals as→StA k A N env envs F0 aux0 m ca μ→Inv cx ((env.locals,m)::F0) (ca++aux0) σ s.heap→L.length=as.length→
  (∀m' ca' h' tk,StA k A N env envs F0 aux0 m' ca' ((L.zip as).foldl (fun μ p=>μ.set p.1.1 p.2) μ)→Inv cx ((env.locals,m')::F0) (ca'++aux0) σ h'→P () {s with heap:=h',toks:=tk})→
  wpAny M A (assignInOrder ((L.map (fun p=>Str.ofString p.2)).map fun n=>bindName env n) vals) P E s
 | [],vals,as,m,ca,μ,s,P,E,_,r,S,J,hl,hP=>by
  cases r with
  |nil=>exact wpAny_pure (hP m ca s.heap s.toks S J)
  |cons=>cases hl
 |(i,x)::L,vals,as,m,ca,μ,s,P,E,hL,r,S,J,hl,hP=>by
  cases r with
  |nil=>cases hl
  | @cons v vals a as r rs=>
   obtain ⟨hx,hk,hi⟩:=hL (i,x) (.head _)
   have hk':env.kindOf (Str.ofString x)=some .local:=by unfold Env.kindOf;rw [S.at_.names];exact hk
   show wpAny M A (holding vals (bindName env (Str.ofString x) v) >>= fun ω=>assignInOrder ((L.map (fun p=>Str.ofString p.2)).map fun n=>bindName env n) vals) P E s
   refine wpAny_bind (wpAny_holding (wpAny_bindName (sto_loc S J hx (.inl hk') hi r fun m' ca' h' tk S' J'=>?_)))
   exact binds_ok (s:={s with heap:=h',toks:=tk}) (fun p hp=>let ⟨a,b,c⟩:=hL p (.tail _ hp);⟨a,b,by rw [List.length_set];exact c⟩) rs S' J' (by simpa using hl) hP
set_option tactic.hygienic true in
theorem swpL_some {ts:List PySem.Expr}:∀e id,(fun (x:PySem.Expr)=>match x with |.Name id pos=>if k.names.lookup id==some .local&&pos.line==(ts.head?.map (·.pos.line)).getD 0 then some id else none |_=>none) e=some id→∃p,e=.Name id p∧k.names.lookup id=some .local:=by
 intro e id h
 simp only at h
 split at h
 ·rename_i z p
  split at h
  ·rename_i hc
   cases h
   simp only [Bool.and_eq_true,beq_iff_eq] at hc
   exact ⟨p,rfl,hc.1⟩
  ·cases h
 ·cases h
theorem idx_ne {p q:Nat×String}(hp:k.nm[p.1]? = some p.2)(hq:k.nm[q.1]? = some q.2)(h:Str.ofString p.2≠Str.ofString q.2):p.1≠q.1:=fun z=>by
 rw [z,hq] at hp;exact h (by rw [Option.some.inj hp])
theorem wpTgs_locs:∀{L:List (Nat×String)} {as:List V} {μ σ} {Q:List V→Sto→Prop},wpTgs ch (L.map fun p=>Tg.loc p.1) as μ σ Q E→L.length=as.length∧(∀p∈L,p.1<μ.length)∧Q ((L.zip as).foldl (fun μ p=>μ.set p.1.1 p.2) μ) σ
 | [],[],μ,σ,Q,q=>⟨rfl,fun p hp=>(nomatch hp),q⟩
 | [],_::_,_,_,_,q=>q.elim
 |_::_,[],_,_,_,q=>q.elim
 |p::L,a::as,μ,σ,Q,q=>by
  obtain ⟨hi,q⟩:=q
  obtain ⟨h1,h2,h3⟩:=wpTgs_locs (L:=L) q
  refine ⟨by simp [h1],fun r hr=>?_,h3⟩
  rcases List.mem_cons.mp hr with rfl |hr
  ·exact hi
  ·have:=h2 r hr;rwa [List.length_set] at this
theorem idx_nodup:∀{L:List (Nat×String)},(∀p∈L,k.nm[p.1]? = some p.2)→(L.map fun p=>Str.ofString p.2).Nodup→(L.map (·.1)).Nodup
 | [],_,_=>List.nodup_nil
 |p::L,hk,nd=>by
  rw [List.map_cons,List.nodup_cons] at nd⊢
  refine ⟨fun z=>?_,idx_nodup (fun p hp=>hk p (.tail _ hp)) nd.2⟩
  obtain ⟨q,hq,e⟩:=List.mem_map.mp z
  have h1:=hk p (.head _)
  have h2:=hk q (.tail _ hq)
  rw [e,h1] at h2
  exact nd.1 (List.mem_map.mpr ⟨q,hq,by rw [Option.some.inj h2]⟩)
theorem set_rev:∀{L:List (Nat×String)} {as:List V} {μ:List V},L.length=2∨L.length=3→L.length=as.length→(L.map (·.1)).Nodup→
  (L.reverse.zip as.reverse).foldl (fun μ p=>μ.set p.1.1 p.2) μ=(L.zip as).foldl (fun μ p=>μ.set p.1.1 p.2) μ
 | [p1,p2],[a1,a2],μ,_,_,nd=>by
  have n12:p1.1≠p2.1:=by intro z;simp [z] at nd
  simp only [List.reverse_cons,List.reverse_nil,List.nil_append,List.cons_append,List.zip_cons_cons,List.zip_nil_left,List.foldl_cons,List.foldl_nil]
  exact List.set_comm _ _ (Ne.symm n12)
 | [p1,p2,p3],[a1,a2,a3],μ,_,_,nd=>by
  have n12:p1.1≠p2.1:=by intro z;simp [z] at nd
  have n13:p1.1≠p3.1:=by intro z;simp [z] at nd
  have n23:p2.1≠p3.1:=by intro z;simp [z] at nd
  simp only [List.reverse_cons,List.reverse_nil,List.nil_append,List.cons_append,List.zip_cons_cons,List.zip_nil_left,List.foldl_cons,List.foldl_nil]
  rw [List.set_comm a3 a2 (Ne.symm n23),List.set_comm a3 a1 (Ne.symm n13),List.set_comm a2 a1 (Ne.symm n12)]
 | [],_,_,h,_,_=>by simp at h
 | [_],_,_,h,_,_=>by simp at h
 |_::_::_::_::_,_,_,h,_,_=>by simp at h
 | [_,_],[],_,_,h,_=>by simp at h
 | [_,_],[_],_,_,h,_=>by simp at h
 | [_,_],_::_::_::_,_,_,h,_=>by simp at h
 | [_,_,_],[],_,_,h,_=>by simp at h
 | [_,_,_],[_],_,_,h,_=>by simp at h
 | [_,_,_],[_,_],_,_,h,_=>by simp at h
 | [_,_,_],_::_::_::_::_,_,_,h,_=>by simp at h
theorem swap_ok {L:List (Nat×String)}{ns:List PySem.Str}(hL:ns=L.map fun p=>Str.ofString p.2)(hl:L.length=2∨L.length=3)(hk:∀p∈L,k.nm[p.1]? = some p.2∧k.names.lookup (Str.ofString p.2)=some .local)(nd:ns.Nodup)
  (S:StA k A N env envs F0 aux0 m ca μ)(ss:SS g s)(J:Inv cx ((env.locals,m)::F0) (ca++aux0) σ s.heap){v:Value}{a:V}(r:VR v a){Q:List V→Sto→Prop}(q:wpTg ch (.tup (L.map fun p=>Tg.loc p.1)) a μ σ Q E) :
  wpAny cx.M A (unpackItems v ns.length none >>= fun items=>assignInOrder (ns.reverse.map fun n=>bindName env n) items.reverse) (fun ω s'=>PSu cx k A N env envs F0 aux0 g Q s') (PExS cx k A N env envs F0 aux0 g true E) s:=by
 obtain ⟨b,as,rfl,hs,hla,q⟩:=q
 have:=r.ref';subst this
 obtain ⟨h1,h2,h3⟩:=wpTgs_locs q
 have fin:∀{cvs:Array Value} {h':Heap},VRs cvs.toList as→Heap.ExtBut s.heap.objs.size s.heap h'→wpAny cx.M A (assignInOrder (ns.reverse.map fun n=>bindName env n) cvs.toList.reverse) (fun ω s'=>PSu cx k A N env envs F0 aux0 g Q s') (PExS cx k A N env envs F0 aux0 g true E) {s with heap:=h'}:=fun {cvs h'} rv eb=>by
  have J':=(J.keep (h':=h') (fun b ob e=>eb b ob (Nat.ne_of_lt (Heap.lt_size e)) e))
  have e1:ns.reverse=(L.reverse).map fun p=>Str.ofString p.2:=by rw [hL,List.map_reverse]
  rw [e1]
  refine binds_ok (s:={s with heap:=h'}) (L:=L.reverse) (as:=as.reverse) (fun p hp=>let ⟨a,b⟩:=hk p (List.mem_reverse.mp hp);⟨a,b,h2 p (List.mem_reverse.mp hp)⟩) rv.reverse S J' (by simp [h1]) fun m' ca' h'' tk S' J''=>?_
  refine ⟨m',ca',_,σ,S',ss.trans ⟨rfl,rfl,rfl⟩,J'',?_⟩
  have key:=set_rev (μ:=μ) hl h1 (idx_nodup (fun p hp=>(hk p hp).1) (hL▸nd))
  rw [key];exact h3
 have hnl:ns.length=as.length:=by rw [hL,List.length_map,h1]
 rcases hs with e |⟨mm,e⟩
 ·obtain ⟨cvs,ht,rv⟩:=J.sto _ _ e
  have hs:=rv.length
  rw [Array.length_toList] at hs
  have hn:ns.length=cvs.size:=by lia
  rw [hn]
  exact wpAny_bind (PyProof.Rows.unpackItems_tuple S.at_.ao.hd ht fun h' eb=>fin rv eb)
 ·obtain ⟨cvs,ht,rv,_⟩:=J.sto _ _ e
  have hs:=rv.length
  rw [Array.length_toList] at hs
  have hn:ns.length=cvs.size:=by lia
  rw [hn]
  exact wpAny_bind (unpackItems_list S.at_.ao.hd ht fun h' eb=>fin rv eb)
end
end Internal
end
section
open PySem PySem.W PySem.Calls PyProof.Rows
set_option maxRecDepth 100000
namespace Internal
section
variable {cx:Cx}{ch:Ch}{N:Nat}{k:SC}{e:PySem.Expr}{A:Around}{n:Nat}{env:Env}{envs:List Env}{F F0:List Ns1}{aux aux0 aux1 ca ca':List (Addr×Obj)}{m m':PySem.Str→Option Value}{μ:List V}{σ:Sto}{s g:Shared}{E:PEs}{t:Bool}
theorem exec_asg (tg value:PySem.Expr)(pos:Pos):exec (.Assign [tg] value pos) env=(standAt pos >>= fun ω=>swapsWith value (some tg) pos.line env >>= fun b=>if b=true then (evalThenUse value env (fun v=>assignAll v ((assignEach [tg] env).map (·.2))) >>= fun ω=>pure .next)
  else eval value env >>= fun v=>swappedStores [tg] value env >>= fun sw=>assignStores env v sw ((assignEach [tg] env).map (·.2))):=rfl
theorem each_one {tg:PySem.Expr}(h:isStar tg=false):(assignEach [tg] env).map (·.2)=[assign tg env]:=by rw [each_cons [] h];rfl
theorem use_fin {i:Nat}{x:String}{np:Pos}{E':PE}{Q:List V→Sto→Prop}(S:StA k A N env envs F0 aux0 m ca μ)(hx:k.nm[i]? = some x)(hk:env.kindOf (Str.ofString x)=some .local)
  {s':Shared}{D C:Addr}{mC:PySem.Str→Option Value}{oD:Obj}{rs:List V}{σ':Sto}(ss:SS g s')(la:LA D oD rs)(J:Inv cx ((C,mC)::(env.locals,m)::F0) ((D,oD)::(ca++aux0)) σ' s'.heap)(hD:D∉(ca++aux0).map (·.1))
  (q:alloc (.list false rs) σ' fun v σ=>wpTg ch (.loc i) v μ σ Q E) :
  compPost cx.M A (PEx cx ((env.locals,m)::F0) (ca++aux0) envs g true E') (some (assign (.Name (Str.ofString x) np) env)) (fun ω s'=>PSu cx k A N env envs F0 aux0 g Q s') (.ref D) C (.ok .next) s':=by
 show wpAny cx.M A (assign (.Name (Str.ofString x) np) env (.ref D)) _ _ s'
 have J1:=J.swap
 refine wpAny_assign_Name (wpAny_storeName_local hk (J1.ns _ (.head _)).1 (fun h' n' sb=>?_) (by rw [S.at_.kind];rfl))
 have J2:=J1.top (fun b o hb e=>sb.extBut b o hb e) n'
 refine ⟨mC,(J2.ns (C,mC) (by simp)).1,fun h'' sb''=>?_⟩
 have J3:=J2.swap.pop (h':=h'') (by simp) (fun b o hb e=>sb''.extBut b o hb e)
 obtain ⟨np',cvs,rv,l⟩:=la
 have hl:=l h'' (J3.auxs _ (.head _)).1
 have hD0:=J3.free (.head _) np'
 have J4:=J3.hand (ob:=.list false rs) np' hD (fun b o ω e=>e) ⟨cvs,hl,rv,nofun⟩
 obtain ⟨hi,q'⟩:=q D _ hD0 (put_ext hD0) (put_self ..)
 exact ⟨_,ca,μ.set i (.ref D),_,S.set (S.at_.loc.setL hx hk (.ref D)),ss.trans ⟨rfl,rfl,rfl⟩,J4,q'⟩
theorem asg_norm {t:Tg}{x:X}{tg value:PySem.Expr}{pos:Pos}{Q:PS}(h0:isStar tg=false)(hx:SndX cx ch N k x value)(hg:SndG cx ch N k t tg)(S:StA k A N env envs F0 aux0 m ca μ)(ss:SS g s)(J:Inv cx ((env.locals,m)::F0) (ca++aux0) σ s.heap)
  (q:wpS ch (.asg t x) μ σ Q E)(hs:swapsWith value (some tg) pos.line env=pure false)(hw:swappedStores [tg] value env=pure none) :
  wpAny cx.M A (exec (.Assign [tg] value pos) env) (PSt cx k A N env envs F0 aux0 g Q) (PExS cx k A N env envs F0 aux0 g false E) s:=by
 rw [exec_asg,each_one h0]
 refine wpAny_bind (wpAny_standAt ?_)
 rw [hs]
 refine wpAny_bind (wpAny_pure ?_)
 rw [if_neg (by decide)]
 refine wpAny_bind (wpVS (hx S.at_ ss J q) (fun va s₁ a σ₁ ss₁ ra J₁ q₁=>?_) fun v s' x=>(x.toS S).weak)
 rw [hw]
 refine wpAny_bind (wpAny_pure ?_)
 show wpAny cx.M A (assign tg env va >>= fun ω=>(pure Flow.next:Sem Flow)) _ _ s₁
 exact wpAny_bind (wpM (hg S ss₁ J₁ ra q₁) (fun ω s₂ p=>wpAny_pure p.st) fun v s' x=>x.weak)
noncomputable def isTup:PySem.Expr→Bool
 |.Tuple ..=>true
 |_=>false
noncomputable def isTL:PySem.Expr→Bool
 |.Tuple .. |.List ..=>true
 |_=>false
theorem st_asg {t:Tg}{x:X}{tg value:PySem.Expr}{pos:Pos}(h0:isStar tg=false)(h1:isLC value=false)(h2:isTup value=false∨isTL tg=false)(hx:SndX cx ch N k x value)(hg:SndG cx ch N k t tg):SndS cx ch N k (.asg t x) (.Assign [tg] value pos):=fun S ss J q=>
 asg_norm h0 hx hg S ss J q (swaps_no h1 _ _) (by
  rcases h2 with h |h
  ·exact swappedNo fun vs c d z=>by subst z;cases h
  ·cases tg<;>first |rfl |cases h)
theorem no_c {α:Type}{c:Prop}[Decidable c]{x:Option α}{z:α}{P:Prop}(e:(if c then none else x)=some z)(k:¬c→x=some z→P):P:=by
 by_cases h:c
 ·rw [if_pos h] at e;exact absurd e.symm (Option.some_ne_none z)
 ·rw [if_neg h] at e;exact k h e
theorem swp_out {tgs:List Tg}{ts vs:List PySem.Expr}{ns:List PySem.Str}(hn:swpN k ts vs=some ns)(hT:SwpT k tgs ts) :
  ∃L:List (Nat×String),tgs=L.map (fun p=>Tg.loc p.1)∧ns=L.map (fun p=>Str.ofString p.2)∧(L.length=2∨L.length=3)∧∀p∈L,k.nm[p.1]? = some p.2∧k.names.lookup (Str.ofString p.2)=some .local:=by
 rw [swpN_eq] at hn
 refine no_c hn fun c1 hn=>no_c hn fun c2 hn=>?_
 have l2:(swpL k ts).length=ts.length:=Decidable.not_not.mp fun z=>c2 (Bool.or_eq_true_iff.mpr (.inl (bne_iff_ne.mpr z)))
 have l1:ts.length=2∨ts.length=3:=by
  cases h:(ts.length==2||ts.length==3) with
  |true=>exact (Bool.or_eq_true_iff.mp h).imp eq_of_beq eq_of_beq
  |false=>rw [h] at c1;exact absurd rfl c1
 refine (swp_names (swpL_some (k:=k) (ts:=ts)) hT l2).imp fun L h=>⟨h.1,(Option.some.inj hn).symm.trans h.2.1,?_,h.2.2⟩
 have e:L.length=ts.length:=by rw [←l2,show swpL k ts=_ from h.2.1,List.length_map]
 rw [e];exact l1
theorem st_asgT {tgs:List Tg}{x:X}{ts vs:List PySem.Expr}{c c':Nat}{d d' pos:Pos}(hst:(vs.any fun |.Starred ..=>true |_=>false)=false)
  (ho:swpN k ts vs=none∨∃ns,swpN k ts vs=some ns∧ns.Nodup∧(vs.all (foldedForSure 8)=true∨vs.all (constantsAlone 8)=false)∧SwpT k tgs ts)
  (hx:SndX cx ch N k x (.Tuple vs c d))(hg:SndG cx ch N k (.tup tgs) (.Tuple ts c' d')):SndS cx ch N k (.asg (.tup tgs) x) (.Assign [.Tuple ts c' d'] (.Tuple vs c d) pos):=by
 intro A env envs F0 aux0 m ca μ σ s g Q E S ss J q
 refine (swp_eq (c:=c') (c':=c) (d:=d') (d':=d) S.at_ hst (fun ns hn=>(ho.resolve_left (by rw [hn];exact Option.some_ne_none ns)).elim fun ω h=>h.2.2.1)).elim (fun hw=>asg_norm rfl hx hg S ss J q rfl hw) fun h=>h.elim fun ns h=>?_
 refine (ho.resolve_left (by rw [h.1];exact Option.some_ne_none ns)).elim fun ns' o=>(swp_out h.1 o.2.2.2).elim fun L l=>?_
 have nd:ns.Nodup:=Option.some.inj (o.1.symm.trans h.1)▸o.2.1
 rw [exec_asg,each_one rfl]
 refine wpAny_bind (wpAny_standAt ?_)
 rw [show swapsWith (.Tuple vs c d) (some (.Tuple ts c' d')) pos.line env=pure false from rfl]
 refine wpAny_bind (wpAny_pure ?_)
 rw [if_neg Bool.false_ne_true]
 refine wpAny_bind (wpVS (hx S.at_ ss J q) (fun va s₁ a σ₁ ss₁ ra J₁ q₁=>?_) fun v s' x=>(x.toS S).weak)
 rw [h.2]
 refine wpAny_bind (wpAny_pure ?_)
 show wpAny cx.M A (rule "assign.swapped-stores" >>= fun ω=>unpackItems va ns.length none >>= fun items=>assignInOrder (ns.reverse.map fun n=>bindName env n) items.reverse >>= fun ω=>(pure Flow.next:Sem Flow)) _ _ s₁
 refine wpAny_bind (wpAny_rule ?_)
 rw [←bind_assoc]
 exact wpAny_bind (wpM (swap_ok l.2.1 l.2.2.1 l.2.2.2 nd S ss₁ J₁ ra (l.1▸q₁)) (fun ω s₂ p=>wpAny_pure p.st) fun v s' x=>x.weak)
variable (cx ch N) in
noncomputable def SndC (k:SC)(x:X)(el:PySem.Expr)(gens:List Comprehension)(sc:Scope)(pos:Pos):Prop:=∀{A env envs F aux m ca μ σ s g Q E} {fpos:Pos},At k A N env envs F aux m ca μ→SS g s→Inv cx F aux σ s.heap→wpX ch x μ σ Q E→∀{use:Option (Value→Sem Unit)} {P:Value→Shared→Prop},
 (∀(s':Shared) D C mC oD rs σ',SS g s'→LA D oD rs→Inv cx ((C,mC)::F) ((D,oD)::aux) σ' s'.heap→D∉aux.map (·.1)→alloc (.list false rs) σ' Q→compPost cx.M A (PEx cx F aux envs g true E) use P (.ref D) C (.ok .next) s')→
 wpAny cx.M A (comprehension (.ListComp el gens sc pos) sc env fpos (newList []) false (firstIter gens env) use) P (PEx cx F aux envs g true E) s
theorem st_asgC {i:Nat}{x:X}{z:PySem.Str}{el:PySem.Expr}{gens:List Comprehension}{sc:Scope}{np vp pos:Pos}(fa:firstAsync gens=false)(o1:okL k i z=true)(o2:isLocK k z=true)(hc:SndC cx ch N k x el gens sc vp)(hx:SndX cx ch N k x (.ListComp el gens sc vp)) :
  SndS cx ch N k (.asg (.loc i) x) (.Assign [.Name z np] (.ListComp el gens sc vp) pos):=by
 intro A env envs F0 aux0 m ca μ σ s g Q E S ss J q
 by_cases hw:(env.blockKind==.function&&env.kindOf z==some .local&&np.line==(PySem.Expr.ListComp el gens sc vp).pos.line&&!(sc.names.any fun (n,k)=>n==z&&(k==.local||k==.cell)))=true
 ·have hs:swapsWith (.ListComp el gens sc vp) (some (.Name z np)) pos.line env=pure true:=by
   show (pure (env.blockKind==.function&&env.kindOf z==some .local&&np.line==(PySem.Expr.ListComp el gens sc vp).pos.line&&!(sc.names.any fun (n,k)=>n==z&&(k==.local||k==.cell))):Sem Bool)=pure true
   rw [hw]
  rw [exec_asg,each_one rfl]
  refine wpAny_bind (wpAny_standAt ?_)
  rw [hs]
  refine wpAny_bind (wpAny_pure ?_)
  rw [if_pos rfl]
  simp only [Bool.and_eq_true,beq_iff_eq] at hw
  obtain ⟨y,hy,rfl⟩:=okL_of o1
  show wpAny cx.M A ((comprehension (.ListComp el gens sc vp) sc env (firstIterPos gens vp) (newList []) (firstAsync gens) (firstIter gens env) (some (assign (.Name (Str.ofString y) np) env)) >>= fun ω=>(pure ():Sem Unit)) >>= fun ω=>(pure Flow.next:Sem Flow)) _ _ s
  rw [fa]
  exact wpAny_bind (wpAny_bind (wpM (hc S.at_ ss J q (P:=fun ω s'=>PSu cx k A N env envs F0 aux0 g (Q .next) s') fun s' D C mC oD rs σ' ss' la J' hD q'=>use_fin S hy hw.1.1.2 ss' la J' hD q') (fun ω s₂ p=>wpAny_pure (wpAny_pure p.st)) fun v s' x=>(x.toS S).weak))
 ·refine asg_norm rfl hx (sg_loc o1 o2) S ss J q ?_ (swappedNo nofun)
  show (pure (env.blockKind==.function&&env.kindOf z==some .local&&np.line==(PySem.Expr.ListComp el gens sc vp).pos.line&&!(sc.names.any fun (n,k)=>n==z&&(k==.local||k==.cell))):Sem Bool)=pure false
  rw [eq_false_of_ne_true hw]
end
end Internal
end
section
open PySem PySem.W PySem.Calls PyProof.Rows
set_option maxRecDepth 100000
namespace Internal
section
variable {cx:Cx}{ch:Ch}{N:Nat}{k:SC}{e:PySem.Expr}{A:Around}{n:Nat}{env:Env}{envs:List Env}{F F0:List Ns1}{aux aux0 aux1 ca ca':List (Addr×Obj)}{m m':PySem.Str→Option Value}{μ:List V}{σ:Sto}{s g:Shared}{E:PEs}{t:Bool}
noncomputable def RL (cx:Cx)(k:SC)(A:Around)(N:Nat)(env:Env)(envs:List Env)(F0:List Ns1)(aux0:List (Addr×Obj))(g:Shared)(Q:PS)(E:PEs)(r:Result)(s':Shared):Prop:=match r with
 |.ok f=>PSt cx k A N env envs F0 aux0 g Q f s'
 |.error e=>cameBackBy cx.M A env (PExS cx k A N env envs F0 aux0 g false E) e s'
theorem err_L {v:Value}{s':Shared}(S:StA k A N env envs F0 aux0 m ca μ){Q:PS}(x:PExS cx k A N env envs F0 aux0 g t E v s'):notedBy cx.M A env (fun e s'=>RL cx k A N env envs F0 aux0 g Q E (.error e) s') v s':=
 x.noted S fun v s' y=>y.came fun v s' z=>z.weak
inductive WI (cx:Cx)(k:SC)(A:Around)(N:Nat)(env:Env)(envs:List Env)(F0:List Ns1)(aux0:List (Addr×Obj))(g:Shared)(W:Nat→List V→Sto→Prop)(n:Nat)(s:Shared):Prop
 |mk (m:PySem.Str→Option Value) (ca:List (Addr×Obj)) (μ:List V) (σ:Sto):StA k A N env envs F0 aux0 m ca μ→SS g s→Inv cx ((env.locals,m)::F0) (ca++aux0) σ s.heap→W n μ σ→WI cx k A N env envs F0 aux0 g W n s
theorem st_whl {c:T}{body:List S}{te:PySem.Expr}{bd:List PySem.Stmt}{pos:Pos}(hc:SndT cx ch N k c te)(hb:SndSs cx ch N k body bd):SndS cx ch N k (.whl c body) (.While te bd [] pos):=by
 intro A env envs F0 aux0 m ca μ σ s g Q E S ss J q
 refine q.elim fun n q=>wpAny_While (codeAny_mono (R:=RL cx k A N env envs F0 aux0 g Q E) ?_ fun r s' x=>x)
 refine codeAny_whileLoop (WI cx k A N env envs F0 aux0 g fun n μ σ=>wpWhl (fun μ σ k=>wpT ch c μ σ k fun c σ=>E c μ σ) (fun μ σ k=>wpSs ch body μ σ k E) n μ σ Q) ?_ n ⟨m,ca,μ,σ,S,ss,J,q⟩
 clear q J ss
 intro n s z
 cases z with |mk m ca μ σ S' ss J q=>
 cases n with
 |zero=>exact q.elim
 |succ n=>
  refine wpBE (hc S'.at_ ss J q) (fun v s' x=>err_L S (x.toS S')) fun b s₁ σ₁ ss₁ J₁ q₁=>?_
  cases b with
  |true=>
   rw [if_pos rfl]
   refine wpM (ss_ok hb S' ss₁ J₁ q₁) (fun fl s₂ p=>?_) fun v s' x=>err_L S x
   cases p with |mk m₂ ca₂ μ₂ σ₂ S₂ ss₂ J₂ q₂=>
   cases fl with
   |next=>exact ⟨n,Nat.lt_succ_self _,m₂,ca₂,μ₂,σ₂,S₂,ss₂,J₂,q₂⟩
   |cont=>exact ⟨n,Nat.lt_succ_self _,m₂,ca₂,μ₂,σ₂,S₂,ss₂,J₂,q₂⟩
   |brk=>exact ⟨m₂,ca₂,μ₂,σ₂,S₂,ss₂,J₂,q₂⟩
   |ret v=>exact ⟨m₂,ca₂,μ₂,σ₂,S₂,ss₂,J₂,q₂⟩
  |false=>
   rw [if_neg Bool.false_ne_true]
   exact wpAny_execs_nil ⟨m,ca,μ,σ₁,S',ss₁,J₁,q₁⟩
inductive FI (cx:Cx)(k:SC)(A:Around)(N:Nat)(env:Env)(envs:List Env)(F0:List Ns1)(auxR:List (Addr×Obj))(I:Addr)(g:Shared)(len:Nat)(S':Nat→Obj→Prop)(W:Nat→List V→Sto→Prop)(n:Nat)(s:Shared):Prop
 |mk (i:Nat) (o:Obj) (m:PySem.Str→Option Value) (ca:List (Addr×Obj)) (μ:List V) (σ:Sto):n=len-i→i≤len→S' i o→StA k A N env envs F0 ((I,o)::auxR) m ca μ→SS g s→Inv cx ((env.locals,m)::F0) (ca++((I,o)::auxR)) σ s.heap→W i μ σ→FI cx k A N env envs F0 auxR I g len S' W n s
section
variable {pp:List (Addr×Obj)}{X:Addr×Obj}
theorem mem_ins:∀q∈X::(ca++aux),q∈ca++X::aux:=List.forall_mem_cons.mpr ⟨List.mem_append_right _ (.head _),fun ω h=>(List.mem_append.mp h).elim (List.mem_append_left _) fun h=>List.mem_append_right _ (.tail _ h)⟩
theorem mem_del:∀q∈ca++X::aux,q∈X::(ca++aux):=fun ω h=>(List.mem_append.mp h).elim (fun h=>.tail _ (List.mem_append_left _ h)) fun h=>(List.mem_cons.mp h).elim (fun e=>e▸.head _) fun h=>.tail _ (List.mem_append_right _ h)
theorem mem_thin:∀q∈ca++aux,q∈ca++(pp++aux):=fun ω h=>(List.mem_append.mp h).elim (List.mem_append_left _) fun h=>List.mem_append_right _ (List.mem_append_right _ h)
theorem mem_swap:∀q∈ca++(pp++aux),q∈pp++(ca++aux):=fun ω h=>(List.mem_append.mp h).elim (fun h=>List.mem_append_right _ (List.mem_append_left _ h)) fun h=>(List.mem_append.mp h).elim (List.mem_append_left _) fun h=>List.mem_append_right _ (List.mem_append_right _ h)
theorem mem_cons' {l l':List (Addr×Obj)}(h:∀q∈l,q∈l'):∀q∈X::l,q∈X::l':=List.forall_mem_cons.mpr ⟨.head _,fun q z=>.tail _ (h q z)⟩
theorem StA.walk {I:Addr}{o:Obj}{h:Heap}{F:List Ns1}(S:StA k A N env envs F0 aux0 m ca μ)(J:Inv cx F ((I,o)::(pp++(ca++aux0))) σ h)(pins:∀q∈pp,pin q.2=true)(nc:I∉ca.map (·.1)):StA k A N env envs F0 ((I,o)::(pp++aux0)) m ca μ:=
 S.auxs fun c hc z=>(List.mem_cons.mp z).elim (fun e=>nc (by rw [show c=I from e] at hc;exact hc)) fun z=>by
  rw [List.map_append] at z
  refine (List.mem_append.mp z).elim (fun z=>?_) (S.nca c hc)
  refine S.ca.elim (fun r=>absurd hc (by rw [r];exact List.not_mem_nil)) fun r=>r.elim fun c' r=>r.elim fun o' r=>?_
  have e:c=c':=by have h:=hc;rw [r.1] at h;exact List.mem_singleton.mp h
  have np:pin o'=false:=r.2.1.elim fun ov e=>by unfold pin;rw [e]
  exact not_pins J pins (fun q h=>.tail _ (List.mem_append_left _ h)) (.tail _ (List.mem_append_right _ (List.mem_append_left _ (by rw [r.1,e];exact .head _)))) np z
end
theorem for_ok {tg:PySem.Expr}{bd:List PySem.Stmt}{body:List S}(hb:SndSs cx ch N k body bd){items:List V}{chk:Sto→Prop}{pp:List (Addr×Obj)}{I:Addr}{S':Nat→Obj→Prop}{o:Obj}{Q:PS}
  {stp:V→List V→Sto→(Fl→List V→Sto→Prop)→Prop}
  (step:∀{m ca μ σ aux1} {s:Shared} {v a} {kk:Fl→List V→Sto→Prop},StA k A N env envs F0 aux1 m ca μ→SS g s→Inv cx ((env.locals,m)::F0) (ca++aux1) σ s.heap→VR v a→stp a μ σ kk→
   wpAny cx.M A (assign tg env v) (fun ω s'=>PSu cx k A N env envs F0 aux1 g (fun μ σ=>wpSs ch body μ σ kk E) s') (PExS cx k A N env envs F0 aux1 g true E) s)
  (it:ItOK cx A items chk pp I S')(hS:S' 0 o)(S:StA k A N env envs F0 aux0 m ca μ)(ss:SS g s)(J:Inv cx ((env.locals,m)::F0) ((I,o)::(pp++(ca++aux0))) σ s.heap)(nI:I∉(pp++(ca++aux0)).map (·.1))(q:wpFor chk stp items μ σ Q) :
  codeAny cx.M A (.forLoop tg (.ref I) bd [] env) (RL cx k A N env envs F0 aux0 g Q E) s:=by
 have nIp:I∉(pp++aux0).map (·.1):=not_sub mem_thin nI
 have sub0:∀{o},∀q∈aux0,q∈(I,o)::(pp++aux0):=fun q hq=>.tail _ (List.mem_append_right _ hq)
 refine codeAny_forLoop_any (FI cx k A N env envs F0 (pp++aux0) I g items.length S' fun i μ σ=>wpFor chk stp (items.drop i) μ σ Q) ?_ items.length
  ⟨0,o,m,ca,μ,σ,rfl,Nat.zero_le _,hS,S.walk J it.pins (not_sub (fun q h=>List.mem_append_right _ (List.mem_append_left _ h)) nI),ss,J.auxS fun q h=>mem_cons' mem_swap q (mem_del q h),q⟩
 intro n s z
 cases z with |mk i o m ca μ σ hn hi hS S1 ss J q=>
 subst hn
 have nIa:I∉(ca++(pp++aux0)).map (·.1):=fun z=>by
  rw [List.map_append] at z
  exact (List.mem_append.mp z).elim (fun z=>S1.nca _ z (.head _)) nIp
 have J':Inv cx ((env.locals,m)::F0) ((I,o)::(ca++(pp++aux0))) σ s.heap:=J.auxS mem_ins
 have hpp:∀q∈pp,q∈ca++(pp++aux0):=fun q hq=>List.mem_append_right _ (List.mem_append_left _ hq)
 by_cases hlt:i<items.length
 ·rw [List.drop_eq_getElem_cons hlt] at q
  refine it.next J' hpp hS q.1 hlt fun v h' tk o' hS' e' sb rv=>?_
  have J1:=J'.it_next nIa (it.dat _ _ hS) e' sb
  refine letGo_ok it hS' (J1.auxs _ (.head _)).1 ?_
  refine wpM (step (s:={s with heap:=h',toks:=tk}) (aux1:=(I,o')::(pp++aux0)) (S1.auxs S1.nca) (ss.trans ⟨rfl,rfl,rfl⟩) (J1.auxS mem_del) rv q.2) (fun ω s₂ p=>?_) fun v s' x=>err_L S (x.less sub0)
  cases p with |mk m₂ ca₂ μ₂ σ₂ S₂ ss₂ J₂ q₂=>
  refine wpM (ss_ok hb S₂ ss₂ J₂ q₂) (fun fl s₃ p=>?_) fun v s' x=>err_L S (x.less sub0)
  cases p with |mk m₃ ca₃ μ₃ σ₃ S₃ ss₃ J₃ q₃=>
  have out:∀{fl},PFl Q fl μ₃ σ₃→PSt cx k A N env envs F0 aux0 g Q fl s₃:=fun q=>⟨m₃,ca₃,μ₃,σ₃,S₃.less sub0,ss₃,J₃.auxS fun q h=>List.mem_append.mp h |>.elim (List.mem_append_left _) fun h=>List.mem_append_right _ (sub0 q h),q⟩
  have on:wpFor chk stp (items.drop (i+1)) μ₃ σ₃ Q→∃n',n' < items.length-i∧FI cx k A N env envs F0 (pp++aux0) I g items.length S' (fun i μ σ=>wpFor chk stp (items.drop i) μ σ Q) n' s₃:=fun q=>⟨items.length-(i+1),Nat.sub_lt_sub_left hlt (Nat.lt_succ_self i),i+1,o',m₃,ca₃,μ₃,σ₃,rfl,hlt,hS',S₃,ss₃,J₃,q⟩
  cases fl with
  |next=>exact on q₃
  |cont=>exact on q₃
  |brk=>exact out q₃
  |ret v=>exact out q₃
 ·have:i=items.length:=Nat.le_antisymm hi (Nat.le_of_not_lt hlt)
  subst this
  rw [List.drop_length] at q
  exact it.done J' hpp hS q.1 fun h' eb=>wpAny_execs_nil ⟨m,ca,μ,σ,S1.less sub0,ss.trans ⟨rfl,rfl,rfl⟩,(J'.it_done nIa (it.dat _ _ hS) eb).auxS mem_thin,q.2⟩
theorem st_forV (G:Good3 cx){tt:Tg}{it:X}{body:List S}{tg iter:PySem.Expr}{bd:List PySem.Stmt}{pos:Pos}(h0:isSet iter=false)(hg:SndG cx ch N k tt tg)(hit:SndX cx ch N k it iter)(hb:SndSs cx ch N k body bd) :
  SndS cx ch N k (.forV tt it body) (.For tg iter bd [] pos):=fun S ss J q=>
 wpAny_For (wpVS (hit S.at_ ss J q) (fun va s₁ a σ₁ ss₁ ra J₁ q₁=>iter_start G.toGood S.at_.ao.hd J₁ ra q₁ fun items chk pp I o S' h' tk iO hS J₂ nI hl q₂=>
  for_ok (s:={s₁ with heap:=h',toks:=tk}) hb (stp:=fun item μ σ k=>wpTg ch tt item μ σ (fun μ σ=>wpSs ch body μ σ k _) _) (fun S ss J r q=>hg S ss J r q) iO hS S (ss₁.trans ⟨rfl,rfl,rfl⟩) J₂ nI q₂) fun v s' x=>(x.toS S).weak) (folded h0)
theorem st_forR (G:Good3 cx){i:Nat}{x:X}{body:List S}{z:PySem.Str}{c y:PySem.Expr}{bd:List PySem.Stmt}{np cp pos:Pos}(o1:okL k i z=true)(o1':isLocK k z=true)(o2:okGE k "range" c=true)(hs:isStar y=false)(hx:SndX cx ch N k x y)(hb:SndSs cx ch N k body bd) :
  SndS cx ch N k (.forR i x body) (.For (.Name z np) (.Call c [y] [] cp) bd [] pos):=by
 intro A env envs F0 aux0 m ca μ σ s g Q E S ss J q
 refine wpAny_For (wpM (one_P (E:=fun c σ=>E c μ σ) G hs hx (x := "range") (w:=.type "range") (.tail _ (.tail _ (.tail _ (.tail _ (.tail _ (.tail _ (.head _))))))) keepV_t o2 S.at_ ss J q fun v b σ₁ s₁ ss₁ r J₁ q₁=>?_) (fun ω ω p=>p) fun v s' x=>(x.toS S).weak) (fun ω=>rfl)
 refine range_start S.at_.ao.hd J₁ r q₁ fun items chk pp I o S' h' tk iO hS J₂ nI hl q₂=>?_
 exact for_ok (s:={s₁ with heap:=h',toks:=tk}) hb (stp:=fun item μ σ k=>i<μ.length∧wpSs ch body (μ.set i item) σ k E) (fun S ss J r q=>sg_loc (ch:=ch) o1 o1' S ss J r q) iO hS S (ss₁.trans ⟨rfl,rfl,rfl⟩) J₂ nI q₂
end
end Internal
end
section
open PySem PySem.W PySem.Calls PyProof.Rows
open Builtin Builtin.ObjectAttr
set_option maxRecDepth 100000
namespace Internal
structure XO where
 nm:PySem.Str
 q:PySem.Str
 N:Addr
 bs:List Value
 bm:List Value
 sn:List PySem.Str
 sub:List Value
 col:Option Bool
 k0:Option Value
 k1:Option Value
 k2:Option Value
 k3:Option Value
 k5:Option Value
noncomputable abbrev xob (x:XO)(C:Addr):Obj:=excClassObj x.nm x.q C x.N x.bs x.bm true x.sn x.sub false x.col none x.k0 x.k1 x.k2 x.k3 x.k5 "Exception.__new__"
structure XM (bm:List Value):Prop where
 ex:bm.contains (.type "Exception")=true
 base:bm.contains (.type "BaseException")=true
 noA:bm.contains (.type "AttributeError")=false
 noN:bm.contains (.type "NameError")=false
 obj:bm.contains (.type "object")=true
 pass:∀self,refuseLoop self "__setattr__" bm=pure ()
section
variable {prog:Program}{w:World}{A:Around}{E:Value→Shared→Prop}{R:Result→Shared→Prop}{h:Heap}{g:Array GenState}{d:Drawn}{t:Nat}{os:OsState}
variable {x:XO}{C:Addr}
theorem x_new (X:XM x.bm){rest:List Value}(hC:h.get? C=some (xob x C))
  (hq:R (.ok (.ret (.ref (h.objs.size+1)))) ⟨(h.push {cls:=.type "tuple",data:=.seq rest.toArray}).push
   {cls:=.ref C,data:=.fields #[.ref h.objs.size,.none,.none,.none,.bool false,.none]},g,d,t,os⟩)(hrest:rest.length≤sizeLine:=by size_fits) :
  codeAny (model prog w) A (.builtin "Exception.__new__" ⟨.ref C::rest,[]⟩) R ⟨h,g,d,t,os⟩:=by
 have F:=PySem.F.excBase_Exception
 have hends:=F.ends
 have hcB:(Value.ref C::x.bm).contains (.type "Exception")=true:=by rw [List.contains_cons,X.ex,Bool.or_true]
 have hcA:(Value.ref C::x.bm).contains (.type "AttributeError")=false:=by rw [List.contains_cons,X.noA];rfl
 have hcN:(Value.ref C::x.bm).contains (.type "NameError")=false:=by rw [List.contains_cons,X.noN];rfl
 refine codeAny_builtinAt F.entry ?_
 unfold Builtin.«BaseException.__new__»
 refine PySem.wpAt_bind ?_
 show PySem.wpAt _ _ _ (stack >>= _) _ _ _
 refine PySem.wpAt_bind (PySem.wpAt_stack fun p below=>PySem.wpAt_of_wpAny ?_)
 wp_walk
 refine PySem.wpAt_of_wpAny ?_
 rw [F.owner]
 repeat (first |with_reducible refine wpAny_madeHere_exc F.canon hC ?_ |with_reducible refine wpAny_loadPart_at hC ?_ |(with_reducible refine wpAny_isSubtype_exc hC ?_;first |rw [hcB] |rw [hcA] |rw [hcN]) |wp_step)
 show R _ _
 rw [Heap.size_push]
 exact hq
theorem x_type_call (X:XM x.bm){rest:List Value}{fI:Addr}{oI:Obj}{Q:Fin→Shared→Prop}(hck:Looks (model prog w) h (checkBuiltinCall "Exception.__new__" ⟨.ref C::rest,[]⟩) ())
  (hC:h.get? C=some (xob x C))(hi:Looks (model prog w) h (typeLookup (.ref C) "__init__") (some (.ref fI)))
  (hfI:h.get? fI=some oI)(hfc:oI.cls=.type "function")
  (hq:∀h' e,Heap.MadeExcOf h h' e (.ref C) rest→
   wpAny (model prog w) A (call (.ref fI) (.ref e::rest)) (fun r s'=>r=.none∧Q (.done (.ret (.ref e))) s') E ⟨h',g,d,t,os⟩)(hrest:rest.length≤sizeLine:=by size_fits) :
  wpAny (model prog w) A (Builtin.«type.__call__» ⟨.ref C::rest,[]⟩) Q E ⟨h,g,d,t,os⟩:=by
 have F:=PySem.F.excBase_Exception
 repeat (first |with_reducible refine wpAny_loadPart_at hC ?_ |with_reducible refine wpAny_madeBy_exc hC ?_ |wp_step)
 refine codeAny_call_builtin_code (Code.quiet_builtin _ F.quiet) (hck.at ?_)
 refine x_new X hC ?_ hrest
 show wpAny _ _ _ _ _ _
 have kk:∀b o,h.get? b=some o→((h.push {cls:=.type "tuple",data:=.seq rest.toArray}).push {cls:=.ref C,data:=.fields #[.ref h.objs.size,.none,.none,.none,.bool false,.none]}).get? b=some o:=
  fun b o e=>Heap.get?_push_of_some _ (Heap.get?_push_of_some _ e)
 have hC₁:=kk _ _ hC
 have hfI₁:=kk _ _ hfI
 have hget:((h.push {cls:=.type "tuple",data:=.seq rest.toArray}).push
   {cls:=.ref C,data:=.fields #[.ref h.objs.size,.none,.none,.none,.bool false,.none]}).get? (h.objs.size+1)=some
   {cls:=.ref C,data:=.fields #[.ref h.objs.size,.none,.none,.none,.bool false,.none]}:=by heap_get
 have hcC:(Value.ref C::x.bm).contains (.ref C)=true:=by simp
 unfold isInstance
 repeat (first |with_reducible refine wpAny_loadPart_at hget ?_ |(with_reducible refine wpAny_isSubtype_exc hC₁ ?_;rw [hcC]) |wp_step)
 show wpAny _ _ (typeLookup (.ref C) _) _ _ _
 refine (hi.keeps kk).here ?_
 refine wpAny_holding (wpAny_bind ?_)
 unfold bindSpecial
 refine wpAny_bind (wpAny_typeOf (T := "function") ⟨_,hfI₁,hfc⟩ ?_)
 rw [if_pos (by decide)]
 refine wpAny_pure (wpAny_bind (wpAny_mono (hq _ (h.objs.size+1) ⟨kk,Heap.get?_none_of_le (Nat.le_succ _),h.objs.size,hget,Heap.get?_none_of_le (Nat.le_refl _),?_⟩) (fun r s' hr=>?_) fun ω ω x=>x))
 ·exact Heap.get?_push_of_some _ (Heap.get?_push_at rfl rfl)
 ·obtain ⟨rfl,hQ⟩:=hr
  wp_walk
  exact hQ
theorem x_check_type_call {M:Model}{rest:List Value}{Q:Unit→Shared→Prop}(hC:h.get? C=some (xob x C))(hq:Q () ⟨h,g,d,t,os⟩) :
  wpAny M A (checkBuiltinCall "type.__call__" ⟨.ref C::rest,[]⟩) Q E ⟨h,g,d,t,os⟩:=wpAny_check_type_call_sub hC hq
theorem x_make (X:XM x.bm){rest:List Value}{fI:Addr}{oI:Obj}{Q:Value→Shared→Prop}(hck:Looks (model prog w) h (checkBuiltinCall "Exception.__new__" ⟨.ref C::rest,[]⟩) ())
  (hC:h.get? C=some (xob x C))(hi:Looks (model prog w) h (typeLookup (.ref C) "__init__") (some (.ref fI)))
  (hfI:h.get? fI=some oI)(hfc:oI.cls=.type "function")
  (hq:∀h' e,Heap.MadeExcOf h h' e (.ref C) rest→
   wpAny (model prog w) (A.under (.builtin "type.__call__" ⟨.ref C::rest,[]⟩)) (call (.ref fI) (.ref e::rest)) (fun r s'=>r=.none∧Q (.ref e) s') E ⟨h',g,d,t,os⟩)(hrest:rest.length≤sizeLine:=by size_fits) :
  wpAny (model prog w) A (call (.ref C) rest) Q E ⟨h,g,d,t,os⟩:=by
 have f1:=tc_lookup
 have f2:=tc_bind (.ref C)
 have hT:(⟨h,g,d,t,os⟩:Shared).TypeIs (.ref C) "type" := ⟨_,hC,rfl⟩
 refine wpAny_call (codeAny_of_tree ?_)
 show wpAny _ _ (callAny (.ref C) _) _ _ _
 repeat (any_goals (first |assumption |with_reducible refine wpAny_loadPart_at hC ?_ |wp_step))
 refine ⟨rfl,?_⟩
 refine codeAny_call_builtin_at (Code.quiet_builtin _ (by decide +kernel)) entry_typeCall (x_check_type_call hC (x_type_call (hrest:=hrest) X hck hC hi hfI hfc fun h' e hm=>?_))
 exact hq h' e hm
theorem x_raise {env:Env}{s:Shared}{m:Sem Value}{Q:Flow→Shared→Prop}(X:XM x.bm)(hh:A.handled=none)
  (h:wpAny (model prog w) A m (fun v s₁=>∃e t dx,v=.ref e∧s₁.heap.get? C=some (xob x C)∧
   s₁.heap.get? e=some {cls:=.ref C,dict:=dx,data:=.fields #[.ref t,.none,.none,.none,.bool false,.none]}∧E (.ref e) s₁) E s) :
  wpAny (model prog w) A (raiseStmt env (some m) none) Q E s:=by
 have hcB:(Value.ref C::x.bm).contains (.type "BaseException")=true:=by rw [List.contains_cons,X.base,Bool.or_true]
 unfold raiseStmt
 refine wpAny_bind (wpAny_mono h (fun v s₁ h₁=>?_) fun ω ω x=>x)
 obtain ⟨e,t,dx,rfl,hC,he,hE⟩:=h₁
 obtain ⟨hp,g,d,tk,os⟩:=s₁
 repeat (first |with_reducible refine wpAny_loadPart_at he ?_ |with_reducible refine wpAny_loadPart_at hC ?_ |(with_reducible refine wpAny_isSubtype_exc hC ?_;rw [hcB]) |wp_step)
 exact wpAny_raiseNew_none hh hE
end
section
variable {prog:Program}{w:World}{A:Around}{R:Result→Shared→Prop}{K:Frag}{x C t0:Addr}{name:PySem.Str}{v:Value}{tk:Tok}{cd:ClassData}{hpp:Heap}{g:Array GenState}{dr:Drawn}{tt:Nat}{os:OsState}
noncomputable abbrev excObj (C t:Addr)(dx:Option Addr):Obj:={cls:=.ref C,dict:=dx,data:=.fields #[.ref t,.none,.none,.none,.bool false,.none]}
theorem excAt (hx:hpp.get? x=some (excObj C t0 none)):InstAt hpp x (excObj C t0 none) C none:=⟨hx,rfl,rfl,trivial⟩
theorem osa_exc (X:K.In hpp)(hx:hpp.get? x=some (excObj C t0 none))(hc:clsIn K C=some cd)(hp:∀self,refuseLoop self "__setattr__" cd.mro=pure ())(ne:cd.mro.isEmpty=false)(hob:cd.mro.contains (.type "object")=true)
  (ht:findIn K (.ref C) name=some none)(hd:cd.hasDict=true)
  (h:∀h' dx tk',h'.get? x=some (excObj C t0 (some dx))→(∀b ob,b≠x→hpp.get? b=some ob→h'.get? b=some ob)→R (.ok (.ret .none)) ⟨h',g,dr,tk',os⟩) :
  codeAny (model prog w) A (.call (.builtin "object.__setattr__") ⟨[.ref x,.str name tk,v],[]⟩) R ⟨hpp,g,dr,tt,os⟩:=by
 have SF:=PySem.F.store_object
 have I:=excAt hx
 have sub:Looks (model prog w) hpp (isInstance (.ref x) (.type "object")) true:=I.type.andThen (looks_mroIn X (by unfold mroIn;rw [hc,Option.bind_some,if_neg (by rw [ne];decide),hob]))
 refine codeAny_call_builtin SF.slot.plain SF.entry (@check_slot (model prog w) _ _ ⟨hpp,g,dr,tt,os⟩ "object.__setattr__" "object" "__setattr__" (.ref x) [.str name tk,v] [] _ SF.kind SF.split sub (SF.args (.ref x) (.str name tk) v) ?_)
 have hm:Looks (model prog w) hpp (mroOf (.ref C)) cd.mro:=(looks_clsIn X hc).andThen .now
 rw [osa_eq,refuse_eq]
 refine wpAny_bind (wpAny_bind (I.type.at (wpAny_bind (hm.at ?_))))
 rw [hp]
 refine wpAny_pure (wpAny_bind (I.type.at (wpAny_bind ((looks_findIn X ht).at (wpAny_bind (wpAny_pure ?_))))))
 refine wpAny_bind (wpAny_pure (wpAny_bind (wpAny_bind (wpAny_loadPart hx ?_))))
 refine wpAny_bind ((looks_clsIn X hc).at ?_)
 rw [hd]
 refine wpAny_ite_false rfl ?_
 show wpAny (model prog w) A.in1 (if (!true||!typeHasDict (Value.ref C))=true then pure none else (PySem.alloc {cls:=.type "dict",data:=.dict #[]} >>= fun d=>PySem.update x (fun o=>{cls:=o.cls,dict:=some d,data:=o.data,slots:=o.slots}) >>= fun ω=>dictMade (.ref C) x d)) _ _ _
 have hx₁:(hpp.push {cls:=.type "dict",data:=.dict #[]}).get? x=some (excObj C t0 none):=Heap.get?_push_of_some _ hx
 have hxs:x≠hpp.objs.size:=Nat.ne_of_lt (Heap.lt_size hx)
 refine wpAny_ite_false rfl (wpAny_bind (wpAny_alloc (wpAny_bind (wpAny_update hx₁ (wpAny_pure ?_)))))
 have k1:∀b ob,b≠x→hpp.get? b=some ob→((hpp.push {cls:=.type "dict",data:=.dict #[]}).update x fun o=>{cls:=o.cls,dict:=some hpp.objs.size,data:=o.data,slots:=o.slots}).get? b=some ob:=fun b ob n z=>(Heap.get?_update_ne _ _ _ _ n).trans (Heap.get?_push_of_some _ z)
 have hgd:((hpp.push {cls:=.type "dict",data:=.dict #[]}).update x fun o=>{cls:=o.cls,dict:=some hpp.objs.size,data:=o.data,slots:=o.slots}).get? hpp.objs.size=some {cls:=.type "dict",data:=.dict #[]}:=
  (Heap.get?_update_ne _ _ _ _ hxs.symm).trans (Heap.get?_push_at rfl rfl)
 have hgx:((hpp.push {cls:=.type "dict",data:=.dict #[]}).update x fun o=>{cls:=o.cls,dict:=some hpp.objs.size,data:=o.data,slots:=o.slots}).get? x=some (excObj C t0 (some hpp.objs.size)):=Heap.get?_update_self _ hx₁ rfl
 generalize (hpp.push {cls:=.type "dict",data:=.dict #[]}).update x (fun o=>{cls:=o.cls,dict:=some hpp.objs.size,data:=o.data,slots:=o.slots})=h₁ at k1 hgd hgx⊢
 have hnd:h₁.Ns hpp.objs.size (fun ω=>none):=⟨_,#[],_,hgd,rfl,fun ω he=>absurd he (Array.not_mem_empty _),fun ω=>rfl⟩
 show wpAny _ _ (storeInDict hpp.objs.size (.str name tk) name v) _ _ _
 unfold storeInDict newKeyGuard
 refine wpAny_bind (wpAny_pure (wpAny_bind (wpAny_nsSet1 (Heap.Ns1.of_empty hnd) fun h' hn' hs=>(hn'.count (Within.cons name v Within.nil)).elim fun oD q=>q.elim fun esD q=>q.elim fun epD q=>?_)))
 refine wpAny_bind (wpAny_lookBehind q.1 (by rw [q.2.1];exact pastItsLine_dict (Nat.le_trans q.2.2 (by rw [sizeLine_eq];exact Nat.le_of_ble_eq_true rfl))) ?_)
 exact wpAny_pure (h h' hpp.objs.size _ ((hs.2 x hxs).trans hgx) fun b ob hbx hb=>(hs.2 b (Nat.ne_of_lt (Heap.lt_size hb))).trans (k1 b ob hbx hb))
end
end Internal
end
section
open PySem PySem.W PySem.Calls PyProof.Rows
set_option maxRecDepth 100000
namespace Internal
section
variable {cx:Cx}{ch:Ch}{N:Nat}{k:SC}{A:Around}{n:Nat}{env:Env}{envs:List Env}{F F0:List Ns1}{aux aux0 aux1 ca ca':List (Addr×Obj)}{m mC:PySem.Str→Option Value}{μ:List V}{σ:Sto}{s g:Shared}{E:PE}{Q:PX}{t:Bool}{h h':Heap}{C:Addr}
theorem Inv.ns_add (I:Inv cx F aux σ h)(n:h.Ns C mC)(hF:C∉F.map (·.1))(hA:C∉aux.map (·.1))(hσ:σ C=none)(hB:cx.base.objs.size≤C):Inv cx ((C,mC)::F) aux σ h where
 ne:=by simp
 stays:=I.stays
 ns:=fun p hp=>by
  rcases List.mem_cons.mp hp with rfl |hp
  ·exact ⟨n,hB⟩
  ·exact I.ns p hp
 nd:=List.nodup_cons.mpr ⟨hF,I.nd⟩
 auxs:=fun q hq=>⟨(I.auxs q hq).1,(I.auxs q hq).2.1,fun z=>by
  rcases List.mem_cons.mp z with e |z
  ·exact hA (List.mem_map.mpr ⟨q,hq,e⟩)
  ·exact (I.auxs q hq).2.2 z⟩
 sto:=I.sto
 sep:=fun a o e=>⟨fun z=>by
  rcases List.mem_cons.mp z with y |z
  ·rw [y,hσ] at e;cases e
  ·exact (I.sep a o e).1 z,(I.sep a o e).2⟩
structure FnX (cx:Cx)(B:SC→List S→List PySem.Stmt→Prop)(d:Fd)(o:Obj)(fd:FuncData)(body:List PySem.Stmt):Prop where
 data:o.data=.func fd
 bd:fd.body=.stmts body
 glob:fd.globals=mainGlobals
 blt:fd.builtins=builtinsNs
 clo:fd.closure=[]
 code:codeIn cx.K fd.code fd.qualname=true
 kind:fd.scope.kind=.function
 co:fd.scope.isCoroutine=false
 gen:fd.scope.isGenerator=false
 bind:∀vals:List Value,vals.length=d.np→bindArgs fd ⟨vals,[]⟩=pure (((d.nm.take d.np).map Str.ofString).zip vals)
 nm:∀x∈d.nm,fd.scope.names.lookup (Str.ofString x)=some .local∨fd.scope.names.lookup (Str.ofString x)=some .cell
 cell:(fd.scope.names.filter (·.2==.cell)).length≤1
 ok:B ⟨d.nm,fd.scope.names⟩ d.body body
structure FnOK (cx:Cx)(B:SC→List S→List PySem.Stmt→Prop)(a:Addr)(d:Fd):Prop where
 ex:∃o fd body,cx.K.lookup a=some o∧FnX cx B d o fd body
 nd:d.nm.Nodup
 np:d.np≤d.nm.length
theorem cellsFrom_len:∀(names:List (PySem.Str×NameKind)) (n:Nat) (acc:List (PySem.Str×Addr)),(cellsFrom n names acc).length=acc.length+(names.filter (·.2==.cell)).length
 | [],_,acc=>by simp [cellsFrom]
 |(x,kd)::r,n,acc=>by
  unfold cellsFrom
  by_cases q:(kd==NameKind.cell)=true
  ·rw [if_pos q,cellsFrom_len r]
   rw [List.filter_cons_of_pos (by exact q)]
   simp;lia
  ·rw [if_neg q,cellsFrom_len r]
   rw [List.filter_cons_of_neg (by exact q)]
theorem cellsFrom_old:∀(names:List (PySem.Str×NameKind)) (n:Nat) (acc:List (PySem.Str×Addr)),∀p∈acc,p∈cellsFrom n names acc
 | [],_,_,p,h=>h
 |(x,kd)::r,n,acc,p,h=>by
  unfold cellsFrom
  split
  ·exact cellsFrom_old r _ _ p (.tail _ h)
  ·exact cellsFrom_old r _ _ p h
theorem cellsFrom_has:∀(names:List (PySem.Str×NameKind)) (n:Nat) (acc:List (PySem.Str×Addr)) {x},(x,NameKind.cell)∈names→∃c,(x,c)∈cellsFrom n names acc
 | [],_,_,_,h=>by cases h
 |(y,kd)::r,n,acc,x,h=>by
  unfold cellsFrom
  rcases List.mem_cons.mp h with e |h
  ·cases e
   rw [if_pos (by rfl)]
   exact ⟨n,cellsFrom_old r _ _ _ (.head _)⟩
  ·split
   ·exact cellsFrom_has r _ _ h
   ·exact cellsFrom_has r _ _ h
theorem one_lookup {l:List (PySem.Str×Addr)}(hl:l.length≤1){x:PySem.Str}{c:Addr}(h:(x,c)∈l):l=[(x,c)]:=by
 match l,hl,h with
 | [p],_,h=>rw [List.mem_singleton.mp h]
 |_::_::_,hl,_=>simp at hl
theorem bindL_no {kindOf:PySem.Str→Option NameKind}:∀{binds:List (PySem.Str×Value)} {m0:PySem.Str→Option Value} {y},(∀p∈binds,p.1≠y)→bindL kindOf binds m0 y=m0 y
 | [],_,_,_=>rfl
 |(x,v)::r,m0,y,h=>by
  unfold bindL
  rw [bindL_no (fun p hp=>h p (.tail _ hp))]
  split
  ·exact if_neg (Ne.symm (h (x,v) (.head _)))
  ·rfl
theorem bindC_no {kindOf:PySem.Str→Option NameKind}:∀{binds:List (PySem.Str×Value)} {m0:PySem.Str→Option Value} {y},(∀p∈binds,p.1≠y)→PySem.bindC kindOf binds m0 y=m0 y
 | [],_,_,_=>rfl
 |(x,v)::r,m0,y,h=>by
  unfold PySem.bindC
  rw [bindC_no (fun p hp=>h p (.tail _ hp))]
  split
  ·rfl
  ·exact if_neg (Ne.symm (h (x,v) (.head _)))
theorem bindL_at {kindOf:PySem.Str→Option NameKind}:∀{xs:List String} {vs:List Value} {m0:PySem.Str→Option Value} {i:Nat} {x v},xs.Nodup→xs[i]? = some x→vs[i]? = some v→kindOf (Str.ofString x)=some .local→bindL kindOf ((xs.map Str.ofString).zip vs) m0 (Str.ofString x)=some v
 | [],_,_,_,_,_,_,h,_,_=>by simp at h
 |y::xs,[],_,i,x,v,_,_,h,_=>by simp at h
 |y::xs,w::vs,m0,i,x,v,nd,hx,hv,hk=>by
  obtain ⟨n1,n2⟩:=List.nodup_cons.mp nd
  show bindL kindOf ((Str.ofString y,w)::(xs.map Str.ofString).zip vs) m0 _=_
  unfold bindL
  cases i with
  |zero=>
   simp only [List.getElem?_cons_zero,Option.some.injEq] at hx hv
   subst hx;subst hv
   rw [if_pos hk,bindL_no (fun p hp=>by
    obtain ⟨z,hz,e⟩:=List.mem_map.mp (List.of_mem_zip hp).1
    rw [←e];intro q;exact n1 (ofString_inj q▸hz))]
   simp
  |succ i=>exact bindL_at n2 (by simpa using hx) (by simpa using hv) hk
theorem bindC_at {kindOf:PySem.Str→Option NameKind}:∀{xs:List String} {vs:List Value} {m0:PySem.Str→Option Value} {i:Nat} {x v},xs.Nodup→xs[i]? = some x→vs[i]? = some v→kindOf (Str.ofString x)≠some .local→PySem.bindC kindOf ((xs.map Str.ofString).zip vs) m0 (Str.ofString x)=some v
 | [],_,_,_,_,_,_,h,_,_=>by simp at h
 |y::xs,[],_,i,x,v,_,_,h,_=>by simp at h
 |y::xs,w::vs,m0,i,x,v,nd,hx,hv,hk=>by
  obtain ⟨n1,n2⟩:=List.nodup_cons.mp nd
  show PySem.bindC kindOf ((Str.ofString y,w)::(xs.map Str.ofString).zip vs) m0 _=_
  unfold PySem.bindC
  cases i with
  |zero=>
   simp only [List.getElem?_cons_zero,Option.some.injEq] at hx hv
   subst hx;subst hv
   rw [if_neg hk,bindC_no (fun p hp=>by
    obtain ⟨z,hz,e⟩:=List.mem_map.mp (List.of_mem_zip hp).1
    rw [←e];intro q;exact n1 (ofString_inj q▸hz))]
   simp
  |succ i=>exact bindC_at n2 (by simpa using hx) (by simpa using hv) hk
theorem lookup_one {y y':PySem.Str}{c c':Addr}(h:List.lookup y' [(y,c)]=some c'):y'=y∧c'=c:=by
 have:=List.mem_singleton.mp (mem_of_lookup h)
 exact ⟨congrArg Prod.fst this,congrArg Prod.snd this⟩
theorem one_inj {l:List (PySem.Str×Addr)}(hl:l.length≤1){y z:PySem.Str}{c:Addr}(h1:l.lookup y=some c)(h2:l.lookup z=some c):y=z:=by
 rw [one_lookup hl (mem_of_lookup h1)] at h2;exact (lookup_one h2).1.symm
inductive FnC (cx:Cx)(cs:List (PySem.Str×Addr))(L:Addr)(F:List Ns1)(aux:List (Addr×Obj))(σ:Sto)(h:Heap)(m f:PySem.Str→Option Value):Prop
 |mk (ca:List (Addr×Obj)):(ca=[]∨∃c o,ca=[(c,o)]∧(∃ov,o.data=.cell ov)∧c∉aux.map (·.1))→(∀y c,cs.lookup y=some c→∃o,(c,o)∈ca∧o.data=.cell (f y))→Inv cx ((L,m)::F) (ca++aux) σ h→FnC cx cs L F aux σ h m f
theorem fn_cells {f:PySem.Str→Option Value}{L:Addr}(J:Inv cx F aux σ h)(keep:∀b o,h.get? b=some o→h'.get? b=some o)(hL:h.objs.size≤L)(ns:h'.Ns L m){cs:List (PySem.Str×Addr)}(one:cs.length≤1)
  (cell:∀n c,cs.lookup n=some c→h'.IsCell c (f n))(above:∀n c,(n,c)∈cs→L<c):FnC cx cs L F aux σ h' m f:=by
 have hLF:=J.notF hL
 have hLA:=J.notAux hL
 have hLσ:=J.old hL
 have big:=Nat.le_trans J.big hL
 match cs,one with
 | [],_=>exact .mk [] (.inl rfl) (fun y c h=>absurd h.symm (Option.some_ne_none c)) ((J.keep keep).ns_add ns hLF hLA hLσ big)
 | [(y,c)],_=>
  refine (cell y c List.lookup_cons_self).elim fun oc ho=>?_
  have hab:=above y c (.head _)
  have hc:=Nat.le_trans hL (Nat.le_of_lt hab)
  refine .mk [(c,oc)] (.inr ⟨c,oc,rfl,⟨_,ho.2⟩,J.notAux hc⟩) (fun y' c' h=>⟨oc,?_⟩) (((J.keep keep).aux_new J ho.1 hc).ns_add ns hLF (fun z=>(List.mem_cons.mp z).elim (fun y=>Nat.ne_of_lt hab y) hLA) hLσ big)
  have e:=lookup_one h
  rw [e.1,e.2];exact ⟨.head _,ho.2⟩
theorem fn_val {d:Fd}{vs:List Value}{args:List V}(hal:args.length=d.np)(r:VRs vs args){i:Nat}{y:String}{b:V}(hy:d.nm[i]? = some y)(hb:(args++List.replicate (d.nm.length-d.np) V.unb)[i]? = some b) :
  b=.unb∨∃v,vs[i]? = some v∧VR v b∧(d.nm.take d.np)[i]? = some y:=by
 by_cases hi:i<args.length
 ·rw [List.getElem?_append_left hi] at hb
  exact .inr ((r.get hb).imp fun v h=>⟨h.1,h.2,by rw [List.getElem?_take,if_pos (hal▸hi)];exact hy⟩)
 ·rw [List.getElem?_append_right (Nat.le_of_not_lt hi)] at hb
  exact .inl (List.eq_of_mem_replicate (List.mem_of_getElem? hb))
theorem fn_loc {d:Fd}{vs:List Value}{args:List V}(nd:d.nm.Nodup)(np:d.np≤d.nm.length)(hal:args.length=d.np)(r:VRs vs args)(hnm:∀x∈d.nm,env.kindOf (Str.ofString x)=some .local∨env.kindOf (Str.ofString x)=some .cell)
  (hc:∀y,env.kindOf y=some .cell→∃c o,env.cells.lookup y=some c∧(c,o)∈ca∧o.data=.cell (PySem.bindC env.kindOf (((d.nm.take d.np).map Str.ofString).zip vs) (fun ω=>none) y)) :
  Loc env d.nm (args++List.replicate (d.nm.length-d.np) V.unb) (bindL env.kindOf (((d.nm.take d.np).map Str.ofString).zip vs) fun ω=>none) ca where
 len:=by rw [List.length_append,List.length_replicate,hal];exact Nat.add_sub_of_le np
 nd:=nd
 at_:=fun i y b hy hb=>
  have take_nd:=(List.take_sublist d.np _).nodup nd
  have hval:=fn_val hal r hy hb
  (hnm y (List.mem_of_getElem? hy)).imp (fun hl=>⟨hl,hval.imp id fun h=>h.imp fun v p=>⟨bindL_at take_nd p.2.2 p.1 hl,p.2.1⟩⟩) fun hk=>
   ⟨.inl hk,(hc _ hk).imp fun c h=>h.imp fun o p=>⟨_,p.1,p.2.1,p.2.2,hval.imp id fun h=>h.imp fun v p=>⟨bindC_at take_nd p.2.2 p.1 (fun z=>nomatch hk.symm.trans z),p.2.1⟩⟩⟩
theorem fn_body {B:SC→List S→List PySem.Stmt→Prop}{d:Fd}{o:Obj}{fd:FuncData}{body:List PySem.Stmt}(D:FnX cx B d o fd body)(nd:d.nm.Nodup)(np:d.np≤d.nm.length)(hB:∀{k body},B k d.body body→SndSs cx ch N k d.body body){vs:List Value}{args:List V}(ao:AOK A (N+1))(hfr:A.frames=some envs)(eo:EnvsOK envs F)(ne:F≠[])
  (ss:SS g s)(J:Inv cx F aux σ s.heap)(r:VRs vs args)(q:wpBody ch d args σ Q E){L:Addr}(hL:L=s.heap.objs.size)
  (e1:env.scope=fd.scope)(e2:env.locals=L)(e3:env.cells.length≤1)(e3':∀y,fd.scope.names.lookup y=some .cell→∃c,env.cells.lookup y=some c)(e4:env.frame=some L)(e5:env.globals=mainGlobals)(e6:env.builtins=builtinsNs){s₁:Shared}
  (x:InCallC s L (bindL env.kindOf (((d.nm.take d.np).map Str.ofString).zip vs) fun ω=>none) env.cells (PySem.bindC env.kindOf (((d.nm.take d.np).map Str.ofString).zip vs) fun ω=>none) s₁) :
  wpAny cx.M (A.deeper env) (execs body env) (fun f s'=>PR cx F aux envs g Q E (.ok (.ret (match f with |.ret v=>v |_=>.none))) s')
   (fun e s'=>wpAny cx.M (A.deeper env) (leaving env e) (fun ω s''=>PR cx F aux envs g Q E (.error e) s'') (fun e' s''=>PR cx F aux envs g Q E (.error e') s'') s') s₁:=by
 subst e2
 refine (fn_cells J x.toInCall.keep (Nat.le_of_eq hL.symm) x.toInCall.ns e3 x.cell x.above).casesOn (motive:=fun ω=>wpAny _ _ _ _ _ _) fun ca hca hcas J1=>?_
 have hkof:∀y,env.kindOf y=fd.scope.names.lookup y:=fun y=>by unfold Env.kindOf;rw [e1]
 have T:At ⟨d.nm,fd.scope.names⟩ (A.deeper env) N env (env::envs) ((env.locals,bindL env.kindOf (((d.nm.take d.np).map Str.ofString).zip vs) fun ω=>none)::F) (ca++aux) (bindL env.kindOf (((d.nm.take d.np).map Str.ofString).zip vs) fun ω=>none) ca
   (args++List.replicate (d.nm.length-d.np) V.unb):={
  names:=by rw [e1]
  kind:=by rw [e1];exact D.kind
  glob:=e5
  blt:=e6
  frm:=⟨env,envs,_,rfl,e4,e4⟩
  stk:=Around.frames_deeper hfr
  eo:=⟨List.forall_mem_cons.mpr ⟨⟨by rw [e1,D.kind];decide,_,e4,.head _⟩,fun en he=>(eo.ok en he).imp id fun h=>h.imp fun L p=>⟨p.1,.tail _ p.2⟩⟩⟩
  ao:=⟨ao.hd,by show A.depth+1+N+10≤1000;rw [Nat.add_assoc A.depth,Nat.add_comm 1];exact ao.dp,by show A.units+3+3*N+300≤9900;rw [Nat.add_assoc A.units,Nat.add_comm 3];exact ao.un⟩
  top:=⟨F,rfl⟩
  cas:=fun q hq=>List.mem_append_left _ hq
  loc:=fn_loc nd np q.1 r (fun y hy=>by rw [hkof];exact D.nm y hy) fun y hy=>(e3' y ((hkof y).symm.trans hy)).imp fun c hl=>(hcas y c hl).imp fun o p=>⟨hl,p.1,p.2⟩}
 refine wpM (ss_ok (hB D.ok) ⟨T,hca,fun y z c h1 h2=>one_inj e3 h1 h2⟩ (ss.trans (x.toInCall.same.elim fun h e=>e.elim fun t e=>e▸⟨rfl,rfl,rfl⟩)) J1 q.2) (fun fl s₂ p=>?_) fun v s₂ p=>?_
 ·cases p with |mk m₂ ca₂ μ₂ σ₂ S₂ ss₂ J₂ q₂=>
  have J3:Inv cx F aux σ₂ s₂.heap:=J₂.sub ne (List.sublist_cons_self _ _) (fun q hq=>List.mem_append_right _ hq)
  cases fl with
  |next=>exact ⟨.none,σ₂,ss₂,.none,J3,q₂⟩
  |cont=>exact q₂.elim
  |brk=>exact q₂.elim
  |ret v=>exact q₂.elim fun b q=>⟨b,σ₂,ss₂,q.1,J3,q.2⟩
 ·cases p with |mk e c μ₂ σ₂ m₂ ca₂ hv ss₂ S₂ X₂ hc q₂=>
  subst hv
  have X₂:Fly cx ((env.locals,m₂)::F) (ca₂++aux) σ₂ (env::envs) e (.ref (clsAddr c)) false s₂.heap:=X₂
  exact leaving_any (aux':=aux) (Around.frames_deeper hfr) e4 X₂ ne (fun q hq=>List.mem_append_right _ hq) fun h' Y=>⟨e,c,σ₂,rfl,ss₂.trans ⟨rfl,rfl,rfl⟩,Y,hc,q₂⟩
theorem fn_ok (G:Good3 cx)(hlim:cx.base.NoLimit){B:SC→List S→List PySem.Stmt→Prop}{a:Addr}{d:Fd}(H:FnOK cx B a d)(hB:∀{k body},B k d.body body→SndSs cx ch N k d.body body){vs:List Value}{args:List V}(ao:AOK A (N+1))(hfr:A.frames=some envs)(eo:EnvsOK envs F)(ne:F≠[])(ss:SS g s)
  (J:Inv cx F aux σ s.heap)(r:VRs vs args)(q:wpBody ch d args σ Q E):codeAny cx.M A (.call (.ref a) ⟨vs,[]⟩) (PR cx F aux envs g Q E) s:=by
 refine H.ex.elim fun o h=>h.elim fun fd h=>h.elim fun body h=>?_
 have D:=h.2
 have X:=J.K G
 have hcl:(cellsFrom (s.heap.objs.size+1) fd.scope.names []).length≤1:=by rw [cellsFrom_len,List.length_nil,Nat.zero_add];exact D.cell
 have hc:∀y,fd.scope.names.lookup y=some .cell→∃c,(cellsFrom (s.heap.objs.size+1) fd.scope.names []).lookup y=some c:=fun y hy=>
  (cellsFrom_has fd.scope.names (s.heap.objs.size+1) [] (mem_of_lookup hy)).imp fun c hm=>by rw [one_lookup hcl hm];exact List.lookup_cons_self
 refine codeAny_call_cells (Nat.lt_of_lt_of_le (Nat.lt_of_lt_of_le (Nat.lt_add_of_pos_right (Nat.succ_pos N)) (Nat.le_add_right _ 10)) ao.dp) (X _ _ h.1) D.data (hlim.keeps J.stays) (codeRec_of X D.code) D.bd (D.bind vs (r.length.trans q.1)) D.clo (fun p hp=>?_)
  (fun s₁ x=>fn_body D H.nd H.np hB ao hfr eo ne ss J r q rfl rfl rfl hcl hc rfl D.glob D.blt x) D.co D.gen D.kind
 refine (List.mem_map.mp (List.of_mem_zip hp).1).elim fun x hx=>?_
 rw [←hx.2]
 exact (D.nm x (List.mem_of_mem_take hx.1)).imp id fun h=>⟨h,(hc _ h).elim fun c e=>by rw [e];rfl⟩
end
end Internal
end
section
open PySem PySem.W PySem.Calls PyProof.Rows
open Builtin Builtin.ObjectAttr
set_option maxRecDepth 100000
namespace Internal
section
variable {prog:Program}{w:World}{A:Around}{E:Value→Shared→Prop}{s:Shared}
variable {x:XO}{C:Addr}
theorem x_check_init (X:XM x.bm){M:Model}{e:Addr}{oe:Obj}{rest:List Value}{Q:Unit→Shared→Prop}{h:Heap}{g:Array GenState}{d:Drawn}{t:Nat}{os:OsState}
  (hC:h.get? C=some (xob x C))(he:h.get? e=some oe)(hcls:oe.cls=.ref C)(hq:Q () ⟨h,g,d,t,os⟩) :
  wpAny M A (checkBuiltinCall "Exception.__init__" ⟨.ref e::rest,[]⟩) Q E ⟨h,g,d,t,os⟩:=by
 have F:=PySem.F.excBase_Exception
 have hcB:(Value.ref C::x.bm).contains (.type "Exception")=true:=by rw [List.contains_cons,X.ex,Bool.or_true]
 have hshort:=F.noStar
 simp only [checkBuiltinCall,F.initKind,F.initSplit,F.initRow]
 repeat (first |(with_reducible refine wpAny_loadPart_at he ?_;rw [hcls]) |with_reducible refine wpAny_loadPart_at hC ?_ |(with_reducible refine wpAny_isSubtype_exc hC ?_;rw [hcB]) |wp_step)
 refine wpAny_onRaise ?_
 rw [show ∀(a b:String) (n:Nat),Bind.check ⟨.positional, "*", "Exception",.self,[⟨"args",.varPos,false⟩]⟩ a b n (List.map (fun x=>x.fst) ({pos:=Value.ref e::rest}:Args).kw)=pure () from
  fun a b n=>check_star_args _ _ _ _ _ _]
 exact wpAny_pure hq
theorem x_init (X:XM x.bm){e:Addr}{ob:Obj}{vs:Array Value}{t0:Addr}{rest:List Value}{Q:Value→Shared→Prop}(hC:s.heap.get? C=some (xob x C))
  (he:s.heap.get? e=some ob)(hcls:ob.cls=.ref C)(hd:ob.data=.fields vs)(h0:vs[0]? = some (.ref t0))
  (h:Q .none {s with heap:=(s.heap.push {cls:=.type "tuple",data:=.seq rest.toArray}).update e (Obj.mapFields (·.setIfInBounds 0 (.ref s.heap.objs.size)))})(hrest:rest.length≤sizeLine:=by size_fits) :
  wpAny (model prog w) A (call (.builtin "Exception.__init__") (.ref e::rest)) Q E s:=by
 have F:=PySem.F.excBase_Exception
 refine wpAny_call (codeAny_call_builtin F.init.plain F.initEntry (x_check_init X hC he hcls ?_))
 unfold Builtin.«BaseException.__init__»
 dsimp only
 rw [if_neg (by simp)]
 unfold newTuple Builtin.BaseException.bexcPut
 have hsz:0<vs.size:=(Array.getElem?_eq_some_iff.mp h0).1
 have he₁:=Heap.get?_push_of_some (h:=s.heap) {cls:=.type "tuple",data:=.seq rest.toArray} he
 refine wpAny_bind (wpAny_newObj_type (wpAny_bind (wpAny_bind (wpAny_field he₁ hd h0 (wpAny_bind (wpAny_setField he₁ hd hsz ?_))))) (by show rest.toArray.size≤sizeLine;rw [List.size_toArray];exact hrest))
 exact wpAny_letGo (wpAny_pure h)
end
structure XC (cx:Cx)(C:Addr):Prop where
 obj:∃x,cx.K.lookup C=some (xob x C)∧XM x.bm
 init:findIn cx.K (.ref C) "__init__" = some (some (.ref 28))
 sa:findIn cx.K (.ref C) "__setattr__" = some (some (.builtin "object.__setattr__"))
 tk:findIn cx.K (.ref C) "word" = some none
 chk:∀rest,peek cx.K ⟨cx.M.prog,cx.M.w.params⟩ (checkBuiltinCall "Exception.__new__" ⟨.ref C::rest,[]⟩)=some ()
inductive XF (cx:Cx):Prop
 |mk (o:Obj) (fd:FuncData) (p1 p2 p3 p4 p5 p6 q1 q2 q3 q4:Pos):cx.K.lookup 28=some o→o.cls=.type "function" → o.data=.func fd→
  fd.body=.stmts [.Expr (.Call (.Attribute (.Name "Exception" p1) "__init__" p2) [.Name "self" p3,.Name "word" p4] [] p5) p6,.Assign [.Attribute (.Name "self" q1) "word" q2] (.Name "word" q3) q4]→p2.endLine=p5.line→
  fd.globals=mainGlobals→fd.builtins=builtinsNs→codeIn cx.K fd.code fd.qualname=true→fd.scope.kind=.function→fd.scope.isCoroutine=false→fd.scope.isGenerator=false→
  (∀a b:Value,bindArgs fd ⟨[a,b],[]⟩=pure [(("self" : PySem.Str),a),(("word" : PySem.Str),b)])→fd.scope.names.lookup (Str.ofString "self")=some .local→fd.scope.names.lookup (Str.ofString "word")=some .local→fd.scope.names.lookup (Str.ofString "Exception")=some .globalImplicit→
  (∀x∈fd.scope.names,x.2≠.cell)→XF cx
theorem XF.fn {cx:Cx}(x:XF cx):∃o,cx.K.lookup 28=some o∧o.cls=.type "function" := by
 cases x with |mk o _ _ _ _ _ _ _ _ _ _ _ h c=>exact ⟨o,h,c⟩
structure Good4 (cx:Cx):Prop extends Good3 cx where
 lim:cx.base.NoLimit
 excG:GV cx "Exception" (.type "Exception")
 excI:findCls cx.K (.type "Exception") (.type "type") "__init__" = some (.val (.builtin "Exception.__init__"))
 xf:XF cx
 xc:∀c,c≤1→XC cx (clsAddr c)∧GV cx (clsName c) (.ref (clsAddr c))∧keepIn cx.K (.ref (clsAddr c))=true
section
variable {cx:Cx}{ch:Ch}{N:Nat}{k:SC}{A:Around}{n:Nat}{env:Env}{envs:List Env}{F F0:List Ns1}{aux aux0 aux1 ca ca':List (Addr×Obj)}{m mC:PySem.Str→Option Value}{μ:List V}{σ:Sto}{s g:Shared}{E:PEs}{t:Bool}{h h':Heap}{C:Addr}
theorem x_store (XCC:XC cx C){e t0:Addr}{wv:Value}{E:Value→Shared→Prop}(X₁:cx.K.In s.heap)(he₁:s.heap.get? e=some (excObj C t0 none)) :
  wpAny cx.M A (setAttr (.ref e) (Str.ofString "word") wv) (fun ω s'=>∃h' dx tk',s'={s with heap:=h',toks:=tk'}∧(∀b o,b≠e→s.heap.get? b=some o→h'.get? b=some o)∧h'.get? e=some (excObj C t0 (some dx))) E s:=by
 refine XCC.obj.elim fun x hx=>?_
 have hc:∃cd,clsIn cx.K C=some cd∧cd.mro=.ref C::x.bm∧cd.hasDict=true:=⟨_,by unfold clsIn;rw [hx.1],rfl,rfl⟩
 refine set_plain X₁ (excAt he₁) XCC.sa (hc.elim fun cd hc=>?_)
 exact osa_exc X₁ he₁ hc.1 (fun self=>by rw [hc.2.1];exact (refuseLoop_ref _ _ _ _).trans (hx.2.pass self)) (by rw [hc.2.1];rfl) (by rw [hc.2.1,List.contains_cons,hx.2.obj,Bool.or_true]) XCC.tk hc.2.2 fun h' dx tk' g2 k2=>⟨h',dx,tk',rfl,k2,g2⟩
set_option maxHeartbeats 2000000 in
theorem x_body (G:Good4 cx)(XCC:XC cx C){B0:Heap}(st0:cx.base.StaysIn B0){e t0:Addr}{wv:Value}{R:Result→Shared→Prop}(hdp:A.depth<1000)(hbig:cx.base.objs.size≤s.heap.objs.size)
  (k0:∀b o,B0.get? b=some o→s.heap.get? b=some o)(hen:B0.get? e=none)(he:s.heap.get? e=some (excObj C t0 none))
  (h:∀h' t1 dx tk,(∀b o,B0.get? b=some o→h'.get? b=some o)→h'.get? e=some (excObj C t1 (some dx))→R (.ok (.ret .none)) {s with heap:=h',toks:=tk}) :
  codeAny cx.M A (.call (.ref 28) ⟨[.ref e,wv],[]⟩) R s:=by
 refine G.xf.casesOn (motive:=fun ω=>codeAny cx.M A (.call (.ref 28) ⟨[.ref e,wv],[]⟩) R s) fun o fd p1 p2 p3 p4 p5 p6 q1 q2 q3 q4 ho ω hdata hbody hpos hgl hbl hcd hk hco hgen hbind n1 n2 n3 ncell=>?_
 have st:cx.base.StaysIn s.heap:=fun b o e=>k0 b o (st0 b o e)
 have X:cx.K.In s.heap:=G.K.keeps st
 refine codeAny_call_def hdp (X _ _ ho) hdata (G.lim.keeps st) (codeRec_of X hcd) hbody (BindsTo.of_eq (hbind _ _)) ncell (fun p hp=>?_) (fun h₀ ns₀ kp₀=>?_) hco hgen hk
 ·exact (List.forall_mem_cons (p:=fun p:PySem.Str×Value=>fd.scope.names.lookup p.1=some .local)).mpr ⟨n1,List.forall_mem_cons.mpr ⟨n2,fun ω h=>absurd h List.not_mem_nil⟩⟩ p hp
 ·have eL:(callEnv fd s.heap.objs.size 28).locals=s.heap.objs.size:=rfl
  have e1:(callEnv fd s.heap.objs.size 28).scope=fd.scope:=rfl
  have e5:(callEnv fd s.heap.objs.size 28).globals=mainGlobals:=hgl
  have e6:(callEnv fd s.heap.objs.size 28).builtins=builtinsNs:=hbl
  generalize callEnv fd s.heap.objs.size 28=env at eL e1 e5 e6⊢
  have kk:env.scope.kind=.function:=by rw [e1];exact hk
  have ko:∀y,env.kindOf y=fd.scope.names.lookup y:=fun y=>by unfold Env.kindOf;rw [e1]
  have hi:interactive env=false:=by unfold interactive;rw [kk];rfl
  have ms:(fun x=>([(("self" : PySem.Str),Value.ref e),(("word" : PySem.Str),wv)]:List (PySem.Str×Value)).reverse.lookup x) "self" = some (.ref e):=by
   have:(("self" : PySem.Str)==("word" : PySem.Str))=false:=by decide
   simp [List.lookup_cons,this]
  have mw:(fun x=>([(("self" : PySem.Str),Value.ref e),(("word" : PySem.Str),wv)]:List (PySem.Str×Value)).reverse.lookup x) "word" = some wv:=by simp
  generalize hm:(fun x=>([(("self" : PySem.Str),Value.ref e),(("word" : PySem.Str),wv)]:List (PySem.Str×Value)).reverse.lookup x)=m at ns₀ ms mw
  have sz:s.heap.objs.size≤s.heap.objs.size:=Nat.le_refl _
  have eL':e≠s.heap.objs.size:=Nat.ne_of_lt (Heap.lt_size he)
  refine wpAny_execs_cons (wpAny_Expr_any ?_ hi (swaps_no rfl _ _))
  have st₀:cx.base.StaysIn h₀:=fun b o z=>kp₀ b o (st b o z)
  refine methCall (o:=.Name "Exception" p1) rfl (by rfl) (by simp) hpos (name_G (s:={s with heap:=h₀,toks:=s.toks+2}) (x := "Exception") G.toGood G.excG st₀ kk e5 e6 (by rw [ko];exact n3) (by decide) fun pl=>?_)
  refine method_type (s:={s with heap:=h₀,toks:=s.toks+2}) (h₀:=cx.base) (L:=s.heap.objs.size) (m:=m) ⟨ns₀,st₀,hbig⟩ G.K (by first |rfl |kernel_rfl) (by decide +kernel) G.excI (by decide +kernel) ?_
  have nself:∀{s':Shared} {p:Pos} {P:Value→Shared→Prop} {E:Value→Shared→Prop},s'.heap.Ns s.heap.objs.size m→P (.ref e) s'→wpAny cx.M (A.deeper env) (eval (.Name "self" p) env) P E s':=fun ns h=>
   wpAny_Name (wpAny_loadName_local kk (by rw [ko];exact n1) (by rw [eL];exact ns) ms h) (by decide)
  have nword:∀{s':Shared} {p:Pos} {P:Value→Shared→Prop} {E:Value→Shared→Prop},s'.heap.Ns s.heap.objs.size m→P wv s'→wpAny cx.M (A.deeper env) (eval (.Name "word" p) env) P E s':=fun ns h=>
   wpAny_Name (wpAny_loadName_local kk (by rw [ko];exact n2) (by rw [eL];exact ns) mw h) (by decide)
  refine callWith_builtin (by rfl) (Calls.evalArgs_plain (Calls.spliced_cons (nself ns₀ (Calls.spliced_cons (nword ns₀ (Calls.spliced_nil ?_))))))
  have he₀:h₀.get? e=some (excObj C t0 none):=kp₀ _ _ he
  refine XCC.obj.elim fun x hx=>x_init (s:={s with heap:=h₀,toks:=s.toks+2+1}) hx.2 (kp₀ _ _ (X _ _ hx.1)) he₀ rfl rfl rfl ?_
  have he₁:((h₀.push {cls:=.type "tuple",data:=.seq [wv].toArray}).update e (Obj.mapFields (·.setIfInBounds 0 (.ref h₀.objs.size)))).get? e=some (excObj C h₀.objs.size none):=by
   rw [Heap.get?_update_self _ (Heap.get?_push_of_some _ he₀) rfl];rfl
  have kp₁:∀b o,b≠e→h₀.get? b=some o→((h₀.push {cls:=.type "tuple",data:=.seq [wv].toArray}).update e (Obj.mapFields (·.setIfInBounds 0 (.ref h₀.objs.size)))).get? b=some o:=fun b o n z=>
   (Heap.get?_update_ne _ _ _ _ n).trans (Heap.get?_push_of_some _ z)
  generalize (h₀.push {cls:=.type "tuple",data:=.seq [wv].toArray}).update e (Obj.mapFields (·.setIfInBounds 0 (.ref h₀.objs.size)))=h₁ at he₁ kp₁⊢
  have ns₁:h₁.Ns s.heap.objs.size m:=ns₀.at' fun o z=>kp₁ _ o (Ne.symm eL') z
  have kb:∀b o,B0.get? b=some o→h₁.get? b=some o:=fun b o z=>kp₁ b o (fun y=>by rw [y,hen] at z;cases z) (kp₀ b o (k0 b o z))
  have X₁:cx.K.In h₁:=G.K.keeps fun b o z=>kb b o (st0 b o z)
  refine wpAny_execs_cons ?_
  rw [exec_asg]
  refine wpAny_bind (wpAny_standAt (wpAny_bind (wpAny_of_eq (swaps_no rfl _ _) ?_)))
  rw [if_neg (by decide)]
  refine wpAny_bind (nword ns₁ (wpAny_bind (wpAny_of_eq (a:=none) (by rfl) ?_)))
  show wpAny cx.M _ (assign (.Attribute (.Name "self" q1) "word" q2) env wv >>= fun ω=>(pure Flow.next:Sem Flow)) _ _ _
  refine wpAny_bind (assign_Att (nself ns₁ ?_))
  refine wpM (x_store (E:=fun ω ω=>False) (s:={s with heap:=h₁,toks:=s.toks+2+1}) XCC X₁ he₁) (fun ω s' p=>?_) fun ω ω f=>f.elim
  obtain ⟨h',dx,tk',rfl,k2,gfin⟩:=p
  exact wpAny_pure (wpAny_execs_nil (h h' _ dx tk' (fun b o z=>k2 b o (fun y=>by rw [y,hen] at z;cases z) (kb b o z)) gfin))
theorem fly_new (eo:EnvsOK envs F)(J:Inv cx F aux σ h){e t1:Addr}{dx:Option Addr}{C:Addr}(k:∀b o,h.get? b=some o→h'.get? b=some o)(hen:h.get? e=none)(g:h'.get? e=some (excObj C t1 dx)):Fly cx F aux σ envs e (.ref C) false h':=by
 have notin:∀b∈frs envs,b∈F.map (·.1):=fun b hb=>by
  obtain ⟨en,he,hf⟩:=List.mem_filterMap.mp hb
  obtain ⟨_,L,a,c⟩:=eo.ok en he
  rw [hf] at a;cases a;exact c
 refine ⟨J.keep k,hideAll h (frs envs),fun b o q=>k b o (of_hideAll _ q),?_,?_,fun b o q r=>?_,.inr ⟨rfl,excObj C t1 dx,_,_,g,rfl,rfl,rfl,rfl⟩⟩
 ·cases q:(hideAll h (frs envs)).get? e with
  |none=>rfl
  |some o=>have:=of_hideAll _ q;rw [hen] at this;cases this
 ·have:∀l:List Env,(∀en∈l,en∈envs)→h'.FunFrames (hideAll h (frs envs)) l:=by
   intro l
   induction l with
   |nil=>intro _;trivial
   |cons en r ih=>
    intro hl
    have he:=hl en (.head _)
    obtain ⟨a,L,b,c⟩:=eo.ok en he
    obtain ⟨p,hp,e2⟩:=List.mem_map.mp c
    obtain ⟨o,es,ep,ho,hd,_⟩:=(J.ns p hp).1
    exact ⟨a,⟨L,o,b,hideAll_none _ (List.mem_filterMap.mpr ⟨en,he,b⟩),k _ _ (e2▸ho),fun vs z=>by rw [hd] at z;cases z⟩,ih fun e' h'=>hl e' (.tail _ h')⟩
  exact this envs fun ω h=>h
 ·obtain ⟨o',q'⟩:=J.rel_ex r
  have:=k b o' q'
  rw [q] at this;cases this
  refine hideAll_get _ q' fun hb=>?_
  have bF:=notin b hb
  rcases r with r |r |r |r
  ·obtain ⟨o2,z⟩:=Option.isSome_iff_exists.mp r
   obtain ⟨p,hp,e2⟩:=List.mem_map.mp bF
   have:=base_none (J.ns p hp).2
   rw [e2,z] at this;cases this
  ·obtain ⟨o2,z⟩:=Option.isSome_iff_exists.mp r
   exact (J.sep _ _ z).1 bF
  ·obtain ⟨p,hp,e2⟩:=List.mem_map.mp r
   exact (J.auxs p hp).2.2 (e2▸bF)
  ·exact r.2 hb
inductive RSP (cx:Cx)(F:List Ns1)(aux:List (Addr×Obj))(σ:Sto)(envs:List Env)(g:Shared)(C:Addr)(v:Value)(s₁:Shared):Prop
 |mk (e t:Addr) (dx:Option Addr):v=.ref e→SS g s₁→cx.K.In s₁.heap→s₁.heap.get? e=some (excObj C t dx)→Fly cx F aux σ envs e (.ref C) false s₁.heap→RSP cx F aux σ envs g C v s₁
theorem rse_call (G:Good4 cx)(hN:6≤N)(XCC:XC cx C)(ao:AOK A N)(eo:EnvsOK envs F)(J:Inv cx F aux σ s.heap)(ss:SS g s){v:Value}{E:Value→Shared→Prop}:wpAny cx.M A (call (.ref C) [v]) (RSP cx F aux σ envs g C) E s:=by
 refine XCC.obj.elim fun x hx=>G.xf.fn.elim fun o28 ho=>?_
 have X:=J.K G.toGood3
 cases s with |mk hp gg dd tk os=>?_
 refine x_make (C:=C) hx.2 (Looks.of_peek X (XCC.chk _)) (X _ _ hx.1) (looks_findIn X XCC.init) (X _ _ ho.1) ho.2 fun h1 e hm=>hm.there.elim fun t h=>?_
 have ao:=under_tc C [v] ao hN
 refine wpAny_call (codeAny_mono (x_body (s:=⟨h1,gg,dd,tk,os⟩) (R:=fun r s2=>r=.ok (.ret .none)∧RSP cx F aux σ envs g C (.ref e) s2) G XCC (B0:=hp) J.stays (Nat.lt_of_le_of_lt (Nat.le_add_right _ _) (Nat.lt_of_lt_of_le (Nat.add_lt_add_left (show 4<4+10 by decide) _) (Nat.add_assoc _ 4 10▸ao.dp))) (J.keep (h':=h1) hm.keeps).big hm.keeps hm.new h.1
  fun h2 t1 dx tk2 k2 g2=>⟨rfl,.mk e t1 (some dx) rfl (ss.trans ⟨rfl,rfl,rfl⟩) (X.keeps k2) g2 (fly_new eo J k2 hm.new g2)⟩) fun r s2 p=>?_)
 rw [p.1]
 exact ⟨rfl,p.2⟩
theorem one_val {vs:List Value}{as:List V}(rs:VRs vs as)(h:as.length=1):∃v,vs=[v]:=List.length_eq_one_iff.mp (rs.length.trans h)
theorem st_rse (G:Good4 cx)(hN:6≤N){c:Nat}{w:String}{f:PySem.Expr}{kd:Nat}{cpz cp pos:Pos}(o1:c≤1)(o3:okGE k (clsName c) f=true):SndS cx ch N k (.rse c w) (.Raise (some (.Call f [.Constant (.str (Str.ofString w)) kd cpz] [] cp)) none pos):=by
  intro A env envs F0 aux0 m ca μ σ s g Q E S ss J q
  have xc:=G.xc c o1
  have XCC:=xc.1
  refine XCC.obj.elim fun x hx=>?_
  rw [arm_exec_Raise]
  refine wpAny_bind (wpAny_standAt ?_)
  show wpAny cx.M A (raiseStmt env (some (eval (.Call f [.Constant (.str (Str.ofString w)) kd cpz] [] cp) env >>= fun v=>standAt pos >>= fun ω=>pure v)) none) _ _ s
  refine x_raise (C:=clsAddr c) (x:=x) hx.2 S.at_.ao.hd (wpAny_bind ?_)
  refine wpAny_mono (Call_n G.toGood3 xc.2.1 o3 S.at_ J (with_any (ch:=ch) (P:=RSP cx ((env.locals,m)::F0) (ca++aux0) σ envs g (clsAddr c)) (E:=fun ω ω=>False) G.toGood3 (keepV_ref xc.2.2) (xs:=[.cst (.str w)]) (R:=fun ω σ'=>σ'=σ)
   (SndXs.cons (N:=N) rfl (snd_cst (v:=.str w) (c:=.str (Str.ofString w)) (decide_eq_true rfl)) .nil) S.at_ ss J rfl
   fun vs as σ' s' ss' rs hal J' hσ=>(one_val rs hal).elim fun v hv=>?_)) (fun v s₁ p=>?_) fun v s' x=>?_
  ·rw [hv];exact rse_call G hN XCC S.at_.ao S.at_.eo (hσ▸J') ss'
  ·cases p with |mk e t dx hv ss₁ X₁ g1 fl=>exact wpAny_bind (wpAny_standAt (wpAny_pure ⟨e,t,dx,hv,X₁ _ _ hx.1,g1,e,c,μ,σ,m,ca,rfl,ss₁,S,fl,Nat.le_one_iff_eq_zero_or_eq_one.mp o1,q⟩))
  ·obtain ⟨_,_,_,_,_,_,_,h⟩:=x
   exact h.elim
end
end Internal
end
section
open PySem PySem.W PySem.Calls PyProof.Rows
set_option maxRecDepth 100000
namespace Internal
theorem ex_matches {M:Model}{A:Around}{E:Value→Shared→Prop}{K:Frag}{s:Shared}{e C C':Addr}{oe:Obj}{b:Bool}{Q:Bool→Shared→Prop}
  {x:XO}(X:K.In s.heap)(XX:XM x.bm)(hC:s.heap.get? C=some (xob x C))
  (he:s.heap.get? e=some oe)(hcls:oe.cls=.ref C')(hsub:mroIn K C' (.ref C)=some b)(h:Q b s):wpAny M A (excMatches (.ref e) (.ref C)) Q E s:=by
 have L:=looks_mroIn (M:=M) X hsub
 obtain ⟨hp,g,d,tk,os⟩:=s
 dsimp only at L hC he
 have hcB:(Value.ref C::x.bm).contains (.type "BaseException")=true:=by rw [List.contains_cons,XX.base,Bool.or_true]
 have f:=tc_notTuple
 unfold excMatches
 repeat (first |(with_reducible refine wpAny_loadPart_at he ?_;rw [hcls]) |with_reducible refine wpAny_loadPart_at hC ?_ |(with_reducible refine wpAny_isSubtype_exc hC ?_;rw [hcB]) |wp_step)
 refine L.here ?_
 cases b<;>(wp_walk;exact h)
theorem XC.matches {cx:Cx}{C C' e:Addr}{A:Around}{E:Value→Shared→Prop}{s:Shared}{oe:Obj}{b:Bool}{Q:Bool→Shared→Prop}(x:XC cx C)(X:cx.K.In s.heap)(he:s.heap.get? e=some oe)(hcls:oe.cls=.ref C')(hsub:mroIn cx.K C' (.ref C)=some b)(h:Q b s) :
  wpAny cx.M A (excMatches (.ref e) (.ref C)) Q E s:=
 x.obj.elim fun xo o=>ex_matches X o.2 (X _ _ o.1) he hcls hsub h
structure Good5 (cx:Cx):Prop extends Good4 cx where
 xs:∀c c',c≤1→c'≤1→mroIn cx.K (clsAddr c') (.ref (clsAddr c))=some (exSub c' c)
section
variable {cx:Cx}{ch:Ch}{N:Nat}{k:SC}{A:Around}{n:Nat}{env:Env}{envs:List Env}{F F0:List Ns1}{aux aux0 aux1 ca ca':List (Addr×Obj)}{m mC:PySem.Str→Option Value}{μ:List V}{σ:Sto}{s g:Shared}{E:PEs}{t:Bool}{h h':Heap}{C:Addr}
theorem Fly.obj {e:Addr}{cls:Value}(x:Fly cx F aux σ envs e cls t h):∃oe,h.get? e=some oe∧oe.cls=cls:=
 x.fl.elim fun B y=>y.2.2.2.2.elim (fun z=>z.elim fun a0 z=>z.elim fun fl z=>z.there) fun z=>z.2.elim fun oe z=>z.elim fun vs z=>z.elim fun a0 z=>⟨oe,z.1,z.2.1⟩
theorem note_at {M:Model}{e:Addr}{cls:Value}{P:Unit→Shared→Prop}{E':Value→Shared→Prop}(T:At k A N env envs F aux1 m ca μ)(X:Fly cx F aux σ envs e cls t s.heap)
  (hQ:∀h',Fly cx F aux σ envs e cls true h'→P () {s with heap:=h'}):wpAny M A (noteFrame (.ref e) env) P E' s:=
 T.frm.elim fun env' f=>f.elim fun outer f=>f.elim fun L f=>by
  have k:=T.stk
  rw [f.1] at X hQ k
  exact note_ok k f.2.1 f.2.2 X hQ
inductive OkHd:Hd→List PySem.Stmt→Prop
 |ret {c p q}:OkHd .retNone [.Return (some (.Constant .none c p)) q]
 |cont {p}:OkHd .cont [.Continue p]
theorem hd_ok {M:Model}{A:Around}{hd:Hd}{hb:List PySem.Stmt}(ok:OkHd hd hb):∃b₀ bs,hb=b₀::bs∧∀{s:Shared} {P:Flow→Shared→Prop} {E:Value→Shared→Prop},P (match hd with |.retNone=>.ret .none |.cont=>.cont) s→wpAny M A (execs (b₀::bs) env) P E s:=by
 cases ok with
 |ret=>exact ⟨_,_,rfl,fun h=>wpAny_execs_cons (wpAny_Return_some (PyProof.Rows.Constant_none h))⟩
 |cont=>exact ⟨_,_,rfl,fun h=>wpAny_execs_cons (wpAny_Continue h)⟩
theorem st_try (G:Good5 cx){body:List S}{c:Nat}{hd:Hd}{bd hbd:List PySem.Stmt}{tn:PySem.Expr}{hp pos:Pos}(hb:SndSs cx ch N k body bd)(o2:c≤1)(o3:okGE k (clsName c) tn=true)(o4:OkHd hd hbd) :
  SndS cx ch N k (.tryc body c hd) (.Try bd [.ExceptHandler (some tn) none hbd hp] [] [] pos):=by
  intro A env envs F0 aux0 m ca μ σ s g Q E S ss J q
  refine wpAny_Try_except (wpM (ss_ok hb S ss J (show wpSs ch body μ σ Q _ from q)) (fun f s₁ p=>?_) fun v s₁ p=>?_)
  ·cases f with
   |next=>exact wpAny_execs_nil p
   |cont=>exact p
   |brk=>exact p
   |ret v=>exact p
  ·cases p with |mk e c' μ' σ' m' ca' ev ss' S' fl hc q'=>
   rw [ev]
   refine note_at S'.at_ fl fun h1 Y=>setFlight_any (s:={s₁ with heap:=h1}) Y fun h2 Z=>?_
   have xc:=G.xc c o2
   have X:cx.K.In h2:=Z.inv.K (s:={s₁ with heap:=h2}) G.toGood3
   refine Z.obj.elim fun oe ob=>(okGE_ o3).elim fun zp z=>?_
   rw [z.1]
   have hsub:=G.xs c c' o2 (hc.elim (fun z=>z▸Nat.zero_le 1) fun z=>z▸Nat.le_refl 1)
   refine wpAny_handleBy_cons (codeAny_handlers_test (name_G (s:={s₁ with heap:=h2}) G.toGood xc.2.1 Z.inv.stays S'.at_.kind S'.at_.glob S'.at_.blt (by unfold Env.kindOf;rw [S'.at_.names];exact eq_of_beq z.2.2) (okId_of z.2.1) (XC.matches (s:={s₁ with heap:=h2}) xc.1 X ob.1 ob.2 hsub ?_))) nofun
   clear hsub xc z ob o3 hb
   cases hx:exSub c' c with
   |true=>
    rw [hx] at q'
    refine (hd_ok (M:=cx.M) (A:=A.mark (some (.ref e))) (env:=env) o4).elim fun b₀ go=>go.elim fun bs go=>?_
    rw [go.1]
    refine codeAny_handlers_suite (setFlight_any (s:={s₁ with heap:=h2}) Z fun h3 W=>go.2 ?_)
    cases hd with
    |retNone=>exact ⟨m',ca',μ',σ',S',ss'.trans ⟨rfl,rfl,rfl⟩,W.inv,.none,.none,q'⟩
    |cont=>exact ⟨m',ca',μ',σ',S',ss'.trans ⟨rfl,rfl,rfl⟩,W.inv,q'⟩
   |false=>
    rw [hx] at q'
    exact wpAny_handleBy_nil (passOn_any (s:={s₁ with heap:=h2}) Z fun h3 W=>PExS.weak ⟨e,c',μ',σ',m',ca',rfl,ss'.trans ⟨rfl,rfl,rfl⟩,S',W,hc,q'⟩)
end
end Internal
end
section
open PySem PySem.W PySem.Calls PyProof.Rows
set_option maxRecDepth 100000
namespace Internal
section
variable {prog:Program}{w:World}{A:Around}{E:Value→Shared→Prop}{s:Shared}
theorem nextOf_tup_item {it l:Addr}{i:Nat}{items}{x:Value}{Q:Value→Shared→Prop}(hit:IsTupIter s.heap it l i)
  (hl:IsTup s.heap l items)(hx:items[i]? = some x)
  (hQ:∀h',IsTupIter h' it l (i+1)→Heap.SameBut it s.heap h'→Q x {s with heap:=h'}) :
  wpAny (model prog w) A (Builtin.SmallTypes.nextOf (.ref it)) Q E s:=by
 obtain ⟨o,ho,hc,hd⟩:=id hit
 obtain ⟨ol,hol,_,nl,hdl⟩:=hl
 unfold Builtin.SmallTypes.nextOf
 refine wpAny_bind (wpAny_callSpecial?_slot (name:=PySem.Str.ofString "__next__") hit.typeIs slot_tupleiter_next
  (wpAny_call_entry slot_tupleiter_next hit.typeIs entry_tupleiter_next ?_ (args_tupleiter_next _)))
 show wpAny _ _ (field (.ref it) 0 >>= _) _ _ s
 refine wpAny_bind (wpAny_field ho hd (x:=.ref l) rfl ?_)
 show wpAny _ _ (if (Value.ref l==Value.none)=true then _ else _) _ _ s
 rw [if_neg (show ¬((Value.ref l==Value.none)=true) from Bool.false_ne_true)]
 show wpAny _ _ (field (.ref it) 1 >>= _) _ _ s
 refine wpAny_bind (wpAny_field ho hd (x:=.int i 0) rfl ?_)
 show wpAny _ _ (seqItems? (.ref l) >>= _) _ _ s
 refine wpAny_bind (wpAny_seqItems hol hdl ?_)
 simp only [Int.toNat_natCast,hx]
 refine wpAny_bind (wpAny_setField ho hd (by simp) (wpAny_pure ⟨x,rfl,wpAny_pure (hQ _ ?_ (Heap.SameBut.update ..))⟩))
 exact ⟨_,Heap.get?_update_self _ ho (Obj.isFreed_of_fields (Obj.data_mapFields hd _)),(Obj.cls_mapFields ..).trans hc,by
  rw [Obj.data_mapFields hd];simp [rawInt]⟩
theorem nextOf_tup_end {it l:Addr}{i:Nat}{items}{Q:Value→Shared→Prop}(hh:A.handled=none)
  (hit:IsTupIter s.heap it l i)(hl:IsTup s.heap l items)(hx:items[i]? = none)
  (hE:∀h' e,Heap.ExtBut it s.heap h'→(∃o,h'.get? e=some o∧o.cls=.type "StopIteration")→E (.ref e) {s with heap:=h'}) :
  wpAny (model prog w) A (Builtin.SmallTypes.nextOf (.ref it)) Q E s:=by
 obtain ⟨o,ho,hc,hd⟩:=id hit
 obtain ⟨ol,hol,_,nl,hdl⟩:=hl
 unfold Builtin.SmallTypes.nextOf
 refine wpAny_bind (wpAny_callSpecial?_slot (name:=PySem.Str.ofString "__next__") hit.typeIs slot_tupleiter_next
  (wpAny_call_entry slot_tupleiter_next hit.typeIs entry_tupleiter_next ?_ (args_tupleiter_next _)))
 show wpAny _ _ (field (.ref it) 0 >>= _) _ _ s
 refine wpAny_bind (wpAny_field ho hd (x:=.ref l) rfl ?_)
 show wpAny _ _ (if (Value.ref l==Value.none)=true then _ else _) _ _ s
 rw [if_neg (show ¬((Value.ref l==Value.none)=true) from Bool.false_ne_true)]
 show wpAny _ _ (field (.ref it) 1 >>= _) _ _ s
 refine wpAny_bind (wpAny_field ho hd (x:=.int i 0) rfl ?_)
 show wpAny _ _ (seqItems? (.ref l) >>= _) _ _ s
 refine wpAny_bind (wpAny_seqItems hol hdl ?_)
 simp only [Int.toNat_natCast,hx]
 refine wpAny_bind (wpAny_rule (wpAny_bind (wpAny_setField ho hd (by simp) ?_)))
 show wpAny _ _ (newExc (.type "StopIteration") [] >>= _) _ _ _
 refine wpAny_bind ?_
 simp only [newExc,newTuple]
 refine wpAny_bind (wpAny_newObj_type ?_ (by size_fits))
 refine wpAny_bind (m:=firstArgMember _ _) (wpAny_of_eq (a:=Value.none) (by first |rfl |(simp only [firstArgMember];rfl)) ?_)
 refine wpAny_newObj_type ?_ (by size_fits)
 simp only [raiseNew]
 refine wpAny_bind (wpAny_handled ?_)
 first |rw [show A.in1.handled=none from hh] |rw [hh]
 refine wpAny_bind (wpAny_pure (wpAny_throw ?_))
 exact hE _ _ (((Heap.SameBut.update ..).extBut.push _).push _) ⟨_,Heap.get?_push_size _ rfl,rfl⟩
theorem enum_next_tup {e it l:Addr}{i:Nat}{items:Array Value}{x old:Value}{Q:Value→Shared→Prop}
  (he:IsEnum s.heap e it i old)(hit:IsTupIter s.heap it l i)(hl:IsTup s.heap l items)(hx:items[i]? = some x)(hne:e≠it)
  (hQ:∀h',IsEnumOut h' e it ((i:Int)+1) x s.heap.objs.size→IsTupIter h' it l (i+1)→
   h'.get? s.heap.objs.size=some {cls:=.type "tuple",data:=.seq #[.int i s.toks,x]}→
   (∀b o,b≠e→b≠it→s.heap.get? b=some o→h'.get? b=some o)→Q (.ref s.heap.objs.size) {s with heap:=h',toks:=s.toks+1}) :
  wpAny (model prog w) A (Builtin.«enumerate.__next__» ⟨[.ref e],[]⟩) (fun fin s'=>∃v,fin=.done (.ret v)∧Q v s') E s:=by
 obtain ⟨hp,g,d,tk,os⟩:=s
 show wpAny _ _ (field (.ref e) 2 >>= _) _ _ _
 refine wpAny_bind (wpAny_field he rfl (x:=.ref it) rfl ?_)
 refine wpAny_bind (nextOf_tup_item hit hl hx fun h₁ hit₁ hs₁=>?_)
 replace hs₁:Heap.SameBut it hp h₁:=hs₁
 have he₁:IsEnum h₁ e it i old:=(hs₁.2 e hne).trans he
 show wpAny _ _ (field (.ref e) 3 >>= _) _ _ ⟨h₁,g,d,tk,os⟩
 refine wpAny_bind (wpAny_field he₁ rfl (x:=rawInt i) rfl ?_)
 show wpAny _ _ (field (.ref e) 4 >>= _) _ _ ⟨h₁,g,d,tk,os⟩
 refine wpAny_bind (wpAny_field he₁ rfl (x:=.none) rfl ?_)
 show wpAny _ _ (mkInt i >>= _) _ _ ⟨h₁,g,d,tk,os⟩
 refine wpAny_bind (wpAny_mkInt ?_)
 show wpAny _ _ (setField (.ref e) 3 (rawInt ((i:Int)+1)) >>= _) _ _ ⟨h₁,g,d,tk+1,os⟩
 refine wpAny_bind (wpAny_setField_rec he₁ (by simp) fun h₂ he₂ hs₂=>?_)
 replace hs₂:Heap.SameBut e h₁ h₂:=hs₂
 replace he₂:IsEnum h₂ e it ((i:Int)+1) old:=he₂
 show wpAny _ _ (setField (.ref e) 4 .none >>= _) _ _ ⟨h₂,g,d,tk+1,os⟩
 refine wpAny_bind (wpAny_setField_rec he₂ (by simp) fun h₃ he₃ hs₃=>?_)
 replace hs₃:Heap.SameBut e h₂ h₃:=hs₃
 replace he₃:IsEnum h₃ e it ((i:Int)+1) old:=he₃
 show wpAny _ _ (newTuple [.int i tk,x] >>= _) _ _ ⟨h₃,g,d,tk+1,os⟩
 refine wpAny_bind (wpAny_newTuple ?_)
 have he₄:IsEnum (h₃.push {cls:=.type "tuple",data:=.seq #[.int i tk,x]}) e it ((i:Int)+1) old:=Heap.get?_push_of_some _ he₃
 generalize hh₄:h₃.push {cls:=.type "tuple",data:=.seq #[.int i tk,x]}=h₄ at he₄
 have hsz:h₃.objs.size=hp.objs.size:=by rw [hs₃.1,hs₂.1,hs₁.1]
 have hel:e<hp.objs.size:=Heap.lt_size he
 have ht₄:h₄.get? hp.objs.size=some {cls:=.type "tuple",data:=.seq #[.int i tk,x]}:=by rw [←hh₄,←hsz];exact Heap.get?_push_size _ rfl
 have hk₄:∀b o,b≠e→b≠it→hp.get? b=some o→h₄.get? b=some o:=fun b o hbe hbi hb=>by
  rw [←hh₄];exact Heap.get?_push_of_some _ (hs₃.extBut b o hbe (hs₂.extBut b o hbe (hs₁.extBut b o hbi hb)))
 have hit₄:IsTupIter h₄ it l (i+1):=by
  rw [←hh₄];obtain ⟨o,ho,r⟩:=hit₁
  exact ⟨o,Heap.get?_push_of_some _ (hs₃.extBut _ _ (Ne.symm hne) (hs₂.extBut _ _ (Ne.symm hne) ho)),r⟩
 show wpAny _ _ (Builtin.SmallTypes.ownedTupleIsFree (.ref e) >>= _) _ _ ⟨h₄,g,d,tk+1,os⟩
 rw [hsz]
 clear hh₄ he₃ hs₃ he₂ hs₂ he₁ hs₁ hit₁ hsz h₃ h₂ h₁
 refine wpAny_bind ?_
 ·unfold Builtin.SmallTypes.ownedTupleIsFree
  refine wpAny_bind (wpAny_field he₄ rfl (x:=.none) rfl (wpAny_pure ?_))
  simp only [if_true]
  refine wpAny_bind (wpAny_rule ?_)
  refine wpAny_bind (wpAny_field he₄ rfl (x:=old) rfl ?_)
  refine wpAny_bind (wpAny_setField_rec he₄ (by simp) fun h₅ he₅ hs₅=>?_)
  replace hs₅:Heap.SameBut e h₄ h₅:=hs₅
  replace he₅:IsEnum h₅ e it ((i:Int)+1) x:=he₅
  show wpAny _ _ (Builtin.SmallTypes.ownedTupleHandOut (.ref e) (.ref hp.objs.size) >>= _) _ _ ⟨h₅,g,d,tk+1,os⟩
  refine wpAny_bind ?_
  ·unfold Builtin.SmallTypes.ownedTupleHandOut
   refine wpAny_bind (wpAny_setField_rec he₅ (by simp) fun h₆ he₆ hs₆=>?_)
   replace hs₆:Heap.SameBut e h₅ h₆:=hs₆
   replace he₆:IsEnumOut h₆ e it ((i:Int)+1) x hp.objs.size:=he₆
   refine wpAny_setField_rec he₆ (by simp) fun h₇ he₇ hs₇=>?_
   replace hs₇:Heap.SameBut e h₆ h₇:=hs₇
   replace he₇:IsEnumOut h₇ e it ((i:Int)+1) x hp.objs.size:=he₇
   refine wpAny_bind (wpAny_letGo (wpAny_pure ⟨_,rfl,hQ h₇ he₇ ?_ ?_ ?_⟩))
   ·obtain ⟨o,ho,r⟩:=hit₄
    exact ⟨o,hs₇.extBut _ _ (Ne.symm hne) (hs₆.extBut _ _ (Ne.symm hne) (hs₅.extBut _ _ (Ne.symm hne) ho)),r⟩
   ·exact hs₇.extBut _ _ (Nat.ne_of_gt hel) (hs₆.extBut _ _ (Nat.ne_of_gt hel) (hs₅.extBut _ _ (Nat.ne_of_gt hel) ht₄))
   ·exact fun b o hbe hbi hb=>hs₇.extBut b o hbe (hs₆.extBut b o hbe (hs₅.extBut b o hbe (hk₄ b o hbe hbi hb)))
theorem enum_item {e it l:Addr}{i:Nat}{items:Array Value}{x old:Value}{Q:Option Value→Shared→Prop}
  (he:IsEnum s.heap e it i old)(hit:IsTupIter s.heap it l i)(hl:IsTup s.heap l items)(hx:items[i]? = some x)(hne:e≠it)
  (hQ:∀h',IsEnumOut h' e it ((i:Int)+1) x s.heap.objs.size→IsTupIter h' it l (i+1)→
   h'.get? s.heap.objs.size=some {cls:=.type "tuple",data:=.seq #[.int i s.toks,x]}→
   (∀b o,b≠e→b≠it→s.heap.get? b=some o→h'.get? b=some o)→Q (some (.ref s.heap.objs.size)) {s with heap:=h',toks:=s.toks+1}) :
  wpAny (model prog w) A (pyNext (.ref e)) Q E s:=by
 have hT:s.TypeIs (.ref e) "enumerate" := ⟨_,he,rfl⟩
 unfold pyNext
 exact wpAny_bind (wpAny_attempt (wpAny_callSpecial?_slot (name:=PySem.Str.ofString "__next__") hT PySem.F.slot_enumerate_next
  (wpAny_call_entry PySem.F.slot_enumerate_next hT PySem.F.entry_enumerate_next
   (enum_next_tup he hit hl hx hne fun h' a b c k=>wpAny_pure (hQ h' a b c k)) (PySem.F.args_enumerate_next_1 _))))
theorem enum_end {e it l:Addr}{i:Nat}{items:Array Value}{old:Value}{Q:Option Value→Shared→Prop}(hh:A.handled=none)
  (he:IsEnum s.heap e it i old)(hit:IsTupIter s.heap it l i)(hl:IsTup s.heap l items)(hx:items[i]? = none)
  (hQ:∀h',Heap.ExtBut it s.heap h'→Q none {s with heap:=h'}):wpAny (model prog w) A (pyNext (.ref e)) Q E s:=by
 have hT:s.TypeIs (.ref e) "enumerate" := ⟨_,he,rfl⟩
 unfold pyNext
 refine wpAny_bind (wpAny_attempt (wpAny_callSpecial?_slot (name:=PySem.Str.ofString "__next__") hT PySem.F.slot_enumerate_next
  (wpAny_call_entry PySem.F.slot_enumerate_next hT PySem.F.entry_enumerate_next ?_ (PySem.F.args_enumerate_next_1 _))))
 show wpAny _ _ (field (.ref e) 2 >>= _) _ _ _
 refine wpAny_bind (wpAny_field he rfl (x:=.ref it) rfl ?_)
 refine wpAny_bind (nextOf_tup_end hh hit hl hx fun h' x he' hx'=>?_)
 obtain ⟨o,ho,hc⟩:=hx'
 refine wpAny_bind (wpAny_isInstance (T := "StopIteration") (b:=true) ⟨o,ho,hc⟩ isSubtype_stop ?_)
 exact wpAny_pure (hQ _ he')
end
end Internal
end
section
open PySem PySem.W PySem.Calls PyProof.Rows
open AutoSeq1 (wpAny_loadPart')
set_option maxRecDepth 100000
namespace Internal
set_option tactic.hygienic true in
theorem meets_enum_tup (l:Addr)(items:Array Value)(n:Nat)(dct:Option Addr)(sl:Array (Option Value)) :
  Meets (Builtin.«enumerate.__new__» ⟨[.type "enumerate",.ref l],[]⟩) (fun ω R s=>s.heap.get? l=some {cls:=.type "tuple",dict:=dct,data:=.seq items n,slots:=sl}∧
   R (.ok (.ret (.ref (s.heap.push {cls:=.type "tuple_iterator",data:=.fields #[.ref l,.int 0 0]}).objs.size)))
    {s with heap:=(s.heap.push {cls:=.type "tuple_iterator",data:=.fields #[.ref l,.int 0 0]}).push {cls:=.type "enumerate",data:=.fields #[.none,.bool false,.ref s.heap.objs.size,rawInt 0,.none,.none]}}):=
 .of_wp fun prog w A R s h=>by
  obtain ⟨hp,g,d,tk,os⟩:=s;obtain ⟨hl,h⟩:=h
  have hsub:=sub_enumerate
  have hL:IsTup (Shared.heap ⟨hp,g,d,tk,os⟩) l items:=⟨_,hl,rfl,n,rfl⟩
  wp_walk using wpAny_loadPart' hl
  refine PySem.wpAny_stack_any fun st=>wpAny_pure ?_
  split
  ·rename_i c _ _ _ _ _
   cases (c==Value.type "enumerate")
   ·wp_walk using wpAny_loadPart' hl,PyProof.Rows.iter_tuple hL
    exact ⟨_,rfl,h⟩
   ·wp_walk using wpAny_loadPart' hl,PyProof.Rows.iter_tuple hL
    exact ⟨_,rfl,h⟩
  ·wp_walk using wpAny_loadPart' hl,PyProof.Rows.iter_tuple hL
   exact ⟨_,rfl,h⟩
section
variable {prog:Program}{w:World}{A:Around}{E:Value→Shared→Prop}{s:Shared}
theorem call_enum_tup {l:Addr}{items:Array Value}{Q:Value→Shared→Prop}(hL:IsTup s.heap l items)
  (h:∀h',IsEnum h' (s.heap.objs.size+1) s.heap.objs.size 0 .none→h'.get? s.heap.objs.size=some {cls:=.type "tuple_iterator",data:=.fields #[.ref l,.int 0 0]}→
   (∀b o,s.heap.get? b=some o→h'.get? b=some o)→Q (.ref (s.heap.objs.size+1)) {s with heap:=h'}) :
  wpAny (model prog w) A (call (.type "enumerate") [.ref l]) Q E s:=by
 obtain ⟨⟨c,dct,dt,sl⟩,hl,hc,n,hd⟩:=hL
 replace hc:c=.type "tuple" := hc
 replace hd:dt=.seq items n:=hd
 subst hc hd
 refine callType_new PySem.F.called_enumerate (by decide) (PySem.F.typeCall_enumerate_1 _) (PySem.F.newCall_enumerate_1 _) (fun obj=>PySem.F.args_object_init_2 obj _) PySem.F.entry_enumerate_new
  (meets_enum_tup l items n dct sl) ⟨hl,?_⟩
 have hz:(s.heap.push {cls:=.type "tuple_iterator",data:=.fields #[.ref l,.int 0 0]}).objs.size=s.heap.objs.size+1:=Heap.size_push ..
 show _∧_
 rw [hz]
 have he:IsEnum ((s.heap.push {cls:=.type "tuple_iterator",data:=.fields #[.ref l,.int 0 0]}).push
   {cls:=.type "enumerate",data:=.fields #[.none,.bool false,.ref s.heap.objs.size,rawInt 0,.none,.none]}) (s.heap.objs.size+1) s.heap.objs.size 0 .none:=by
  have:=Heap.get?_push_size (s.heap.push {cls:=.type "tuple_iterator",data:=.fields #[.ref l,.int 0 0]})
   (o:={cls:=.type "enumerate",data:=.fields #[.none,.bool false,.ref s.heap.objs.size,rawInt 0,.none,.none]}) rfl
  rw [hz] at this;exact this
 refine ⟨⟨_,he,rfl⟩,h _ he (Heap.get?_push_of_some _ (Heap.get?_push_size _ rfl)) fun b o x=>Heap.get?_push_of_some _ (Heap.get?_push_of_some _ x)⟩
end
section
variable {cx:Cx}{ch:Ch}{N:Nat}{k:SC}{A:Around}{n:Nat}{env:Env}{envs:List Env}{F F0:List Ns1}{aux aux0 aux1 ca ca':List (Addr×Obj)}{m mC:PySem.Str→Option Value}{μ:List V}{σ:Sto}{s g:Shared}{E:PEs}{t:Bool}{h h':Heap}{C:Addr}
noncomputable def enO (I:Nat)(p:Int)(old:Value):Obj:={cls:=.type "enumerate",data:=.fields #[.none,.bool false,.ref I,rawInt p,.none,old]}
noncomputable def tiO (a:Nat):Obj:={cls:=.type "tuple_iterator",data:=.fields #[.ref a,.int 0 0]}
noncomputable def stpE (ch:Ch)(i j:Nat)(body:List S)(vs:List V)(E:PEs)(item:V)(μ:List V)(σ:Sto)(k:Fl→List V→Sto→Prop):Prop:=∃n v,item=.int n∧vs[n.toNat]? = some v∧i<μ.length∧j<μ.length∧wpSs ch body ((μ.set i item).set j v) σ k E
noncomputable def itsE (vs:List V):List V:=(List.range vs.length).map fun (i:Nat)=>V.int (i:Int)
inductive FE (cx:Cx)(k:SC)(A:Around)(N:Nat)(env:Env)(envs:List Env)(F0:List Ns1)(aux0:List (Addr×Obj))(g:Shared)(Q:PS)(st:V→List V→Sto→(Fl→List V→Sto→Prop)→Prop)(a:Nat)(vs:List V)(I:Nat)(n:Nat)(s:Shared):Prop
 |mk (p:Nat) (old:Value) (oI:Obj) (m:PySem.Str→Option Value) (ca:List (Addr×Obj)) (μ:List V) (σ:Sto):n=vs.length-p→p≤vs.length→oI.cls=.type "tuple_iterator" → oI.data=.fields #[.ref a,.int p 0]→
   StA k A N env envs F0 ((I+1,enO I p old)::(I,oI)::aux0) m ca μ→SS g s→Inv cx ((env.locals,m)::F0) (ca++((I+1,enO I p old)::(I,oI)::aux0)) σ s.heap→
   wpFor (fun σ=>σ a=some (.tup vs)) st ((itsE vs).drop p) μ σ Q→FE cx k A N env envs F0 aux0 g Q st a vs I n s
theorem less2 {o1 o2:Addr×Obj}:∀q∈aux0,q∈o1::o2::aux0:=fun ω h=>.tail _ (.tail _ h)
theorem less3 {o1 o2:Addr×Obj}(q)(h:q∈ca++aux0):q∈ca++(o1::o2::aux0):=(List.mem_append.mp h).elim (List.mem_append_left _) fun h=>List.mem_append_right _ (less2 _ h)
theorem StA.sh {o1 o2 o3 o4:Obj}{a b:Addr}(S:StA k A N env envs F0 ((a,o1)::(b,o2)::aux0) m ca μ):StA k A N env envs F0 ((a,o3)::(b,o4)::aux0) m ca μ:=S.auxs S.nca
theorem cons2 {o1 o2:Obj}{x y c:Addr}(h:c∈[x,y]):c∈List.map (·.1) ((x,o1)::(y,o2)::aux0):=show c∈[x,y]++aux0.map (·.1) from List.mem_append_left _ h
theorem lenI (vs:List V):(itsE vs).length=vs.length:=(List.length_map _).trans List.length_range
theorem getI {vs:List V}{p:Nat}(h:p<(itsE vs).length):(itsE vs)[p]=.int (p:Int):=(List.getElem_map _).trans (congrArg (fun (i:Nat)=>V.int (i:Int)) (List.getElem_range _))
theorem Inv.en {I:Nat}{oE oE' oI oI':Obj}(J:Inv cx F (ca++((I+1,oE)::(I,oI)::aux0)) σ h)(nc:∀c∈ca.map (·.1),c∉[I+1,I])(n0:∀c∈aux0.map (·.1),c∉[I+1,I])(p1:Internal.pin oE=false)(p2:Internal.pin oI=false)
  (k:∀b o,b≠I+1→b≠I→h.get? b=some o→h'.get? b=some o)(e1:h'.get? (I+1)=some oE')(e2:h'.get? I=some oI'):Inv cx F (ca++((I+1,oE')::(I,oI')::aux0)) σ h':=
 J.aux_to (ia:=[(I+1,oE),(I,oI)]) (List.forall_mem_cons.mpr ⟨List.mem_append_right _ (.head _),List.forall_mem_cons.mpr ⟨List.mem_append_right _ (.tail _ (.head _)),fun ω h=>absurd h List.not_mem_nil⟩⟩)
  (fun b o hb e=>k b o (fun z=>hb (z▸.head _)) (fun z=>hb (z▸.tail _ (.head _))) e)
  (List.forall_mem_cons.mpr ⟨p1,List.forall_mem_cons.mpr ⟨p2,fun ω h=>absurd h List.not_mem_nil⟩⟩)
  (List.forall_mem_append.mpr ⟨fun q hq=>.inl ⟨List.mem_append_left _ hq,nc _ (List.mem_map_of_mem hq)⟩,List.forall_mem_cons.mpr ⟨.inr ⟨e1,.inl (.head _)⟩,List.forall_mem_cons.mpr ⟨.inr ⟨e2,.inl (.tail _ (.head _))⟩,
   fun q hq=>.inl ⟨List.mem_append_right _ (less2 _ hq),n0 _ (List.mem_map_of_mem hq)⟩⟩⟩⟩)
theorem Inv.en_end {I:Nat}{oE oI:Obj}(J:Inv cx F (ca++((I+1,oE)::(I,oI)::aux0)) σ h)(nc:∀c∈ca.map (·.1),c∉[I+1,I])(n0:∀c∈aux0.map (·.1),c∉[I+1,I])(p2:Internal.pin oI=false)
  (k:∀b o,b≠I→h.get? b=some o→h'.get? b=some o):Inv cx F (ca++aux0) σ h':=
 have w:∀{c},c∉[I+1,I]→c∉[I]:=fun n z=>n (.tail _ z)
 J.aux_to (ia:=[(I,oI)]) (List.forall_mem_cons.mpr ⟨List.mem_append_right _ (.tail _ (.head _)),fun ω h=>absurd h List.not_mem_nil⟩)
  (fun b o hb e=>k b o (fun z=>hb (z▸.head _)) e) (List.forall_mem_cons.mpr ⟨p2,fun ω h=>absurd h List.not_mem_nil⟩)
  fun q hq=>.inl ⟨less3 q hq,w ((List.mem_append.mp hq).elim (fun z=>nc _ (List.mem_map_of_mem z)) fun z=>n0 _ (List.mem_map_of_mem z))⟩
variable {i j:Nat}{body:List S}{xi xj:String}{ppi ppj:Pos}{bd:List PySem.Stmt}{Q:PS}{a I p:Nat}{vs:List V}{old:Value}{oI:Obj}
theorem for_body {W:Fl→List V→Sto→Prop}{D:Flow→Shared→Prop}{Z:Value→Shared→Prop}{w:Value}{h5:Heap}{oI':Obj}{tk0:Nat}{tp:Pos}
  (n0:∀c∈aux0.map (·.1),c∉[I+1,I])(hxi:k.nm[i]? = some xi)(hki:isLocK k (.ofString xi)=true)(hxj:k.nm[j]? = some xj)(hkj:isLocK k (.ofString xj)=true)(hb:SndSs cx ch N k body bd)
  (hZ:∀v s',PExS cx k A N env envs F0 aux0 g false E v s'→Z v s')
  (hod:oI.data=.fields #[.ref a,.int p 0])(S:StA k A N env envs F0 ((I+1,enO I p old)::(I,oI)::aux0) m ca μ)(ss:SS g s)
  (J:Inv cx ((env.locals,m)::F0) (ca++((I+1,enO I p old)::(I,oI)::aux0)) σ s.heap)
  (hi:i<μ.length)(hj:j<μ.length){v:V}(rw_:VR w v)(q:wpSs ch body ((μ.set i (.int p)).set j v) σ W E)
  (hout:IsEnumOut h5 (I+1) I ((p:Int)+1) w s.heap.objs.size)(gI':h5.get? I=some oI')
  (htup:h5.get? s.heap.objs.size=some {cls:=.type "tuple",data:=.seq #[.int p s.toks,w]})(kp5:∀b o,b≠I+1→b≠I→s.heap.get? b=some o→h5.get? b=some o)
  (hD:∀fl s₃ m₃ ca₃ μ₃ σ₃,StA k A N env envs F0 ((I+1,enO I ((p:Int)+1) w)::(I,oI')::aux0) m₃ ca₃ μ₃→SS g s₃→Inv cx ((env.locals,m₃)::F0) (ca₃++((I+1,enO I ((p:Int)+1) w)::(I,oI')::aux0)) σ₃ s₃.heap→PFl W fl μ₃ σ₃→D fl s₃) :
  wpAny cx.M A (letOwnedTupleGo (.Tuple [.Name (Str.ofString xi) ppi,.Name (Str.ofString xj) ppj] tk0 tp) (.ref (I+1)) (.ref s.heap.objs.size)) (fun ω s₁=>
   wpAny cx.M A (assign (.Tuple [.Name (Str.ofString xi) ppi,.Name (Str.ofString xj) ppj] tk0 tp) env (.ref s.heap.objs.size)) (fun ω s₂=>wpAny cx.M A (execs bd env) D Z s₂) Z s₁) Z {s with heap:=h5,toks:=s.toks+1}:=by
 have hl:s.heap.objs.size≠I+1:=Nat.ne_of_gt (Heap.lt_size (J.auxs _ (List.mem_append_right _ (.head _))).1)
 refine wpAny_letOwnedTupleGo_enum (s:={s with heap:=h5,toks:=s.toks+1}) hout fun h6 he6 sb6=>?_
 have J6:=J.en (oE':=enO I ((p:Int)+1) w) (oI':=oI') (h':=h6) (fun c hc z=>S.nca c hc (cons2 z)) n0 rfl (by unfold pin;rw [hod]) (fun b o hb hb' eb=>sb6.extBut b o hb (kp5 b o hb hb' eb)) he6 (sb6.extBut _ _ (Nat.succ_ne_self I).symm gI')
 rw [PyProof.Rows.assign_Tuple]
 refine wpAny_bind (wpAny_standAt ?_)
 unfold unpack
 have hn2:(assignEach [PySem.Expr.Name (Str.ofString xi) ppi,.Name (Str.ofString xj) ppj] env).length=(#[.int (p:Int) s.toks,w]:Array Value).size:=rfl
 rw [hn2,show (assignEach [PySem.Expr.Name (Str.ofString xi) ppi,.Name (Str.ofString xj) ppj] env).findIdx? (·.1)=none from rfl]
 refine wpAny_bind (wpAny_holding (PyProof.Rows.unpackItems_tuple (s:={s with heap:=h6,toks:=s.toks+1}) S.at_.ao.hd ⟨_,sb6.extBut _ _ hl htup,rfl,0,rfl⟩ fun h7 eb7=>?_))
 have J7:=J6.keep (h':=h7) (fun b o z=>eb7 b o (Nat.ne_of_lt (Heap.lt_size z)) z)
 show wpAny cx.M A (holding [w] (assign (.Name (Str.ofString xi) ppi) env (.int (p:Int) s.toks)) >>= fun ω=>holding [] (assign (.Name (Str.ofString xj) ppj) env w) >>= fun ω=>pure ()) _ _ _
 refine wpAny_bind (wpAny_holding (wpAny_assign_Name (sto_loc S.sh J7 hxi (isLocK_of S hki) hi (VR.int (p:Int) s.toks) fun m8 ca8 h8 tk8 S8 J8=>?_)))
 refine wpAny_bind (wpAny_holding (wpAny_assign_Name (sto_loc (s:={s with heap:=h8,toks:=tk8}) S8 J8 hxj (isLocK_of S hkj) (by rw [List.length_set];exact hj) rw_ fun m9 ca9 h9 tk9 S9 J9=>?_)))
 exact wpAny_pure (wpM (ss_ok hb S9 (ss.trans ⟨rfl,rfl,rfl⟩:SS g {s with heap:=h9,toks:=tk9}) J9 q) (fun fl s' ⟨m₃,ca₃,μ₃,σ₃,S₃,ss₃,J₃,q₃⟩=>hD fl s' _ _ _ _ S₃ ss₃ J₃ q₃) fun v s' x=>hZ v s' (x.less less2))
noncomputable def PTn (cx:Cx)(ch:Ch)(k:SC)(A:Around)(N:Nat)(env:Env)(envs:List Env)(F0:List Ns1)(aux0:List (Addr×Obj))(g:Shared)(Q:PS)(E:PEs)(i j:Nat)(xi xj:String)(body:List S)(bd:List PySem.Stmt)(vs:List V)(a I n:Nat)(ppi ppj:Pos)(tk0:Nat)(tp:Pos):Option Value→Shared→Prop:=
 fun r s₁=>match r with
   |none=>wpAny cx.M A (execs [] env) (fun f s₃=>RL cx k A N env envs F0 aux0 g Q E (.ok f) s₃) (notedBy cx.M A env fun e s'=>RL cx k A N env envs F0 aux0 g Q E (.error e) s') s₁
   |some v=>wpAny cx.M A (letOwnedTupleGo (.Tuple [.Name (Str.ofString xi) ppi,.Name (Str.ofString xj) ppj] tk0 tp) (.ref (I+1)) v) (fun ω s₁'=>
     wpAny cx.M A (assign (.Tuple [.Name (Str.ofString xi) ppi,.Name (Str.ofString xj) ppj] tk0 tp) env v) (fun ω s₂=>wpAny cx.M A (execs bd env) (fun f s₃=>match f with
      |.next |.cont=>∃m,m<n∧FE cx k A N env envs F0 aux0 g Q (stpE ch i j body vs E) a vs I m s₃
      |.brk=>RL cx k A N env envs F0 aux0 g Q E (.ok .next) s₃
      |.ret v=>RL cx k A N env envs F0 aux0 g Q E (.ok (.ret v)) s₃) (notedBy cx.M A env fun e s'=>RL cx k A N env envs F0 aux0 g Q E (.error e) s') s₂) (notedBy cx.M A env fun e s'=>RL cx k A N env envs F0 aux0 g Q E (.error e) s') s₁') (notedBy cx.M A env fun e s'=>RL cx k A N env envs F0 aux0 g Q E (.error e) s') s₁
theorem stpE.el {kk:Fl→List V→Sto→Prop}(h:stpE ch i j body vs E (.int (p:Int)) μ σ kk){C:Prop}(f:∀v,vs[p]? = some v→i<μ.length→j<μ.length→wpSs ch body ((μ.set i (.int (p:Int))).set j v) σ kk E→C):C:=
 h.elim fun ω h=>h.elim fun v h=>f v (by cases h.1;exact h.2.1) h.2.2.1 h.2.2.2.1 h.2.2.2.2
theorem for_turn {n:Nat}{ppi ppj:Pos}{tk0:Nat}{tp:Pos}(n0:∀c∈aux0.map (·.1),c∉[I+1,I])(hxi:k.nm[i]? = some xi)(hki:isLocK k (.ofString xi)=true)(hxj:k.nm[j]? = some xj)(hkj:isLocK k (.ofString xj)=true)(hb:SndSs cx ch N k body bd)
  (hZ:∀v s',PExS cx k A N env envs F0 aux0 g false E v s'→notedBy cx.M A env (fun e s'=>RL cx k A N env envs F0 aux0 g Q E (.error e) s') v s')(hd:A.handled=none)
  (f:FE cx k A N env envs F0 aux0 g Q (stpE ch i j body vs E) a vs I n s) :
  wpAny cx.M A (pyNext (.ref (I+1))) (PTn cx ch k A N env envs F0 aux0 g Q E i j xi xj body bd vs a I n ppi ppj tk0 tp) (notedBy cx.M A env fun e s'=>RL cx k A N env envs F0 aux0 g Q E (.error e) s') s:=by
 cases f with |mk p old oI m ca μ σ hn hp hoc hod S ss J q=>
 have gE:=(J.auxs _ (List.mem_append_right _ (.head _))).1
 have gI:=(J.auxs (I,oI) (List.mem_append_right _ (.tail _ (.head _)))).1
 by_cases hlt:p<vs.length
 ·rw [List.drop_eq_getElem_cons (by rw [lenI];exact hlt),getI] at q
  refine stpE.el q.2 fun v q1 q2 q3 q4=>(J.sto _ _ q.1).elim fun cvs ht=>(ht.2.get q1).elim fun w hw=>?_
  refine enum_item gE ⟨oI,gI,hoc,hod⟩ ht.1 (x:=w) (by simpa using hw.1) (Nat.succ_ne_self I) fun h5 hout hit5 htup kp5=>?_
  refine hit5.elim fun oI' hI=>for_body n0 hxi hki hxj hkj hb hZ hod S ss J q2 q3 hw.2 q4 hout hI.1 htup kp5 fun fl s₃ m₃ ca₃ μ₃ σ₃ S₃ ss₃ J₃ q₃=>?_
  have lt:vs.length-(p+1)<n:=hn▸Nat.sub_lt_sub_left hlt (Nat.lt_succ_self p)
  cases fl with
  |next=>exact ⟨_,lt,p+1,w,oI',m₃,ca₃,μ₃,σ₃,rfl,hlt,hI.2.1,hI.2.2,S₃,ss₃,J₃,q₃⟩
  |cont=>exact ⟨_,lt,p+1,w,oI',m₃,ca₃,μ₃,σ₃,rfl,hlt,hI.2.1,hI.2.2,S₃,ss₃,J₃,q₃⟩
  |brk=>exact ⟨m₃,ca₃,μ₃,σ₃,S₃.less less2,ss₃,J₃.sub J₃.ne (List.Sublist.refl _) less3,q₃⟩
  |ret v=>exact ⟨m₃,ca₃,μ₃,σ₃,S₃.less less2,ss₃,J₃.sub J₃.ne (List.Sublist.refl _) less3,q₃⟩
 ·cases Nat.le_antisymm hp (Nat.le_of_not_lt hlt)
  rw [List.drop_eq_nil_of_le (Nat.le_of_eq (lenI vs))] at q
  refine (J.sto _ _ q.1).elim fun cvs ht=>enum_end hd gE ⟨oI,gI,hoc,hod⟩ ht.1 (Array.getElem?_eq_none (Nat.le_of_eq (ht.2.length))) fun h5 eb=>?_
  exact wpAny_execs_nil ⟨m,ca,μ,σ,S.less less2,ss.trans ⟨rfl,rfl,rfl⟩,J.en_end (fun c hc z=>S.nca c hc (cons2 z)) n0 (by unfold pin;rw [hod]) eb,q.2⟩
theorem st_forE (G:Good3 cx){i j:Nat}{x:X}{body:List S}{zi zj:PySem.Str}{c y:PySem.Expr}{bd:List PySem.Stmt}{ppi ppj tp cp pos:Pos}{tk0:Nat}(oi:okL k i zi=true)(hki:isLocK k zi=true)(oj:okL k j zj=true)(hkj:isLocK k zj=true)
  (hij:i≠j)(o2:okGE k "enumerate" c=true)(hs:isStar y=false)(hx:SndX cx ch N k x y)(hb:SndSs cx ch N k body bd) :
  SndS cx ch N k (.forE i j x body) (.For (.Tuple [.Name zi ppi,.Name zj ppj] tk0 tp) (.Call c [y] [] cp) bd [] pos):=by
 obtain ⟨xi,hxi,rfl⟩:=okL_of oi
 obtain ⟨xj,hxj,rfl⟩:=okL_of oj
 intro A env envs F0 aux0 m ca μ σ s g Q E S ss J q
 refine wpAny_For (wpM (one_P (E:=fun c σ=>E c μ σ) G hs hx (x := "enumerate") (w:=.type "enumerate") (by simp [bltTab]) keepV_t o2 S.at_ ss J q fun v b σ₁ s₁ ss₁ r J₁ q₁=>?_) (fun ω ω p=>p) fun v s' x=>(x.toS S).weak) (fun ω=>rfl)
 refine q₁.elim fun a q₁=>q₁.elim fun vs q₁=>?_
 cases VR.ref' (q₁.1▸r)
 refine (J₁.sto _ _ q₁.2.1).elim fun cvs ht=>call_enum_tup ht.1 fun h2 he hi kp=>?_
 refine wpAny_pyIter_enum (s:={s₁ with heap:=h2}) he ?_
 have nI:=J₁.notAux (Nat.le_refl s₁.heap.objs.size)
 have nE:=J₁.notAux (Nat.le_succ s₁.heap.objs.size)
 have J3:Inv cx ((env.locals,m)::F0) ((s₁.heap.objs.size+1,enO s₁.heap.objs.size 0 .none)::(s₁.heap.objs.size,tiO a)::(ca++aux0)) σ₁ h2:=((J₁.keep kp).aux_new J₁ hi (Nat.le_refl _)).aux_new J₁ he (Nat.le_succ _)
 generalize s₁.heap.objs.size=I at he hi nI nE J3
 have nn:∀c∈(ca++aux0).map (·.1),c∉[I+1,I]:=fun c hc z=>(List.mem_cons.mp z).elim (fun z=>nE (show I+1∈_ from z▸hc)) fun z=>nI (List.mem_singleton.mp z▸hc)
 rw [List.map_append] at nn
 have n0:∀c∈aux0.map (·.1),c∉[I+1,I]:=fun c hc=>nn c (List.mem_append_right _ hc)
 have SI:StA k A N env envs F0 ((I+1,enO I 0 .none)::(I,tiO a)::aux0) m ca μ:=S.auxs fun c hc z=>(List.mem_append.mp (show c∈[I+1,I]++aux0.map (·.1) from z)).elim (nn c (List.mem_append_left _ hc)) (S.nca c hc)
 refine codeAny_mono (R:=RL cx k A N env envs F0 aux0 g Q E) ?_ fun r s' x=>x
 refine codeAny_forLoop_any (FE cx k A N env envs F0 aux0 g Q (stpE ch i j body vs E) a vs I) (fun n s f=>?_) vs.length
  ⟨0,.none,_,m,ca,μ,σ₁,rfl,Nat.zero_le _,rfl,rfl,SI,ss₁.trans ⟨rfl,rfl,rfl⟩,J3.sub J3.ne (List.Sublist.refl _) ((List.perm_middle.trans (List.Perm.cons _ List.perm_middle)).subset),q₁.2.2.2⟩
 exact for_turn n0 hxi hki hxj hkj hb (fun v s' x=>err_L S x) S.at_.ao.hd f
end
end Internal
end
section
open PySem PySem.W PySem.Calls PyProof.Rows
set_option maxRecDepth 100000
namespace Internal
noncomputable def hasStar (vs:List PySem.Expr):Bool:=vs.any fun |.Starred ..=>true |_=>false
section
variable {cx:Cx}{ch:Ch}{N:Nat}
theorem sg_attE {k:SC}(G:Good3 cx){o:X}{nm:String}{z:PySem.Str}{oe:PySem.Expr}{pos:Pos}(h:z=Str.ofString nm)(ho:SndX cx ch N k o oe):SndG cx ch N k (.att o nm) (.Attribute oe z pos):=by
 subst h;exact sg_att G ho
theorem st_appE {k:SC}(G:Good3 cx){o x:X}{v y:PySem.Expr}{z:PySem.Str}{ap cp pos:Pos}(h:z=Str.ofString "append")(o2:objM v=true)(o3:ap.endLine=cp.line)(ho:SndX cx ch N k o v)(hs:isStar y=false)(hx:SndX cx ch N k x y) :
  SndS cx ch N k (.app o x) (.Expr (.Call (.Attribute v z ap) [y] [] cp) pos):=by
 subst h;exact st_app G o2 o3 ho hs hx
theorem st_rseE {k:SC}(G:Good4 cx)(hN:6≤N){c:Nat}{w:String}{z:PySem.Str}{f:PySem.Expr}{kd:Nat}{cpz cp pos:Pos}(h:z=Str.ofString w)(o1:c≤1)(o3:okGE k (clsName c) f=true) :
  SndS cx ch N k (.rse c w) (.Raise (some (.Call f [.Constant (.str z) kd cpz] [] cp)) none pos):=by
 subst h;exact st_rse G hN o1 o3
theorem st_asgL {k:SC}{t:Tg}{x:X}{ts:List PySem.Expr}{c:Nat}{d vp pos:Pos}{el:PySem.Expr}{gens:List Comprehension}{sc:Scope}(hx:SndX cx ch N k x (.ListComp el gens sc vp))(hg:SndG cx ch N k t (.Tuple ts c d)) :
  SndS cx ch N k (.asg t x) (.Assign [.Tuple ts c d] (.ListComp el gens sc vp) pos):=fun S ss J q=>asg_norm rfl hx hg S ss J q rfl (swappedNo nofun)
noncomputable def chkSwpT (k:SC):(tgs:List Tg)→(ts:List PySem.Expr)→Chk (SwpT k tgs ts)
 | [],ts=>on0 ts (.ok .nil)
 |.loc i::tgs,ts=>match ts with
   |e::ts=>onName (P:=fun e=>SwpT k (.loc i::tgs) (e::ts)) e fun z p=>isT (okL k i z) fun h=>(chkSwpT k tgs ts).on fun h1=>.ok (.cons @h @h1)
   | []=>none
 |_,_=>none
variable (G:Good5 cx)(C:ChOK cx ch N)(hN:6≤N∨∀c as σ Q E,¬ch.i c as σ Q E)(h6:Chk (6≤N))
mutual
noncomputable def chkG:(k:SC)→(t:Tg)→(e:PySem.Expr)→Chk (SndG cx ch N k t e)
 |k,.loc i,e=>onName e fun z p=>isT (okL k i z) fun h=>isT (isLocK k z) fun h1=>.ok (no_implicit_lambda% sg_loc @h @h1)
 |k,.tup ts,e=>onTup e fun es c p=>(chkGs k ts es).on fun h=>.ok (no_implicit_lambda% sg_tup @h)
 |k,.sub o i,e=>onSub e fun v s p=>isE (isSlice s) fun ω=>(chkX G.toGood3 C hN k o v).on fun h=>(chkX G.toGood3 C hN k i s).on fun h1=>.ok (no_implicit_lambda% sg_sub @h @h1)
 |k,.att o n,e=>onAtt e fun v s p=>isP (s=Str.ofString n) fun hs=>(chkX G.toGood3 C hN k o v).on fun h=>.ok (no_implicit_lambda% sg_attE G.toGood3 hs @h)
noncomputable def chkGs:(k:SC)→(ts:List Tg)→(es:List PySem.Expr)→Chk (SndGs cx ch N k ts es)
 |_,[],es=>on0 es (.ok .nil)
 |k,t::r,es=>onC es fun e es=>isE (isStar e) fun h0=>(chkG k t e).on fun h=>(chkGs k r es).on fun h1=>.ok (.cons @h0 @h @h1)
end
noncomputable def chkC (k:SC):(x:X)→(el:PySem.Expr)→(gs:List Comprehension)→(sc:Scope)→(p:Pos)→Chk (SndC cx ch N k x el gs sc p)
 |.comp n tupled rng it ifs elt nms caps,el,[⟨tg,its,fs,0⟩],sc,p=>isP (n≤nms.length) fun h1=>isT (okScope k.names sc (nms.take n) (nms.drop n)) fun h2=>isT (capsOK k nms n caps) fun h3=>isT (okTgC tupled (nms.take n) tg) fun h5=>
   (chkTs G.toGood3 C hN (inC k nms sc) ifs fs).on fun h6=>(chkX G.toGood3 C hN (inC k nms sc) elt el).on fun h7=>
   (show Chk (ItS cx ch N k rng it its) from match rng with
    |false=>isE (isSet its) fun h0=>(chkX G.toGood3 C hN k it its).on fun h4=>.ok (no_implicit_lambda% ItS.it @h0 @h4)
    |true=>onCall1 (P:=ItS cx ch N k true it) its fun c y q=>isT (okGE k "range" c) fun h0=>isE (isStar y) fun h8=>(chkX G.toGood3 C hN k it y).on fun h4=>.ok (no_implicit_lambda% ItS.rng @h0 @h8 @h4)).on fun h4=>
   .ok fun T ss J q ω ω hf=>comp_any G.toGood3 h1 h2 h3 h4 h5 h6 h7 T ss J q hf
 |.comp2 it1 it2 elt [x1,x2],el,[⟨t1,i1,[],0⟩,⟨t2,i2,[],0⟩],sc,p=>isT (okScope k.names sc [x1,x2] []) fun h1=>isE (isSet i1) fun f1=>(chkX G.toGood3 C hN k it1 i1).on fun h3=>isT (okTgC false [x1] t1) fun h4=>isT (okTgC false [x2] t2) fun h5=>isE (isSet i2) fun f2=>
   (chkX G.toGood3 C hN (inC k [x1,x2] sc) it2 i2).on fun h6=>(chkX G.toGood3 C hN (inC k [x1,x2] sc) elt el).on fun h7=>.ok fun T ss J q ω ω hf=>comp2_any G.toGood3 h1 f1 h3 h4 h5 f2 h6 h7 T ss J q hf
 |_,_,_,_,_=>none
noncomputable def chkAsg (k:SC)(t:Tg)(x:X)(tg value:PySem.Expr)(p:Pos):Chk (SndS cx ch N k (.asg t x) (.Assign [tg] value p)):=
 match isLC value with
 |true=>onComp (P:=fun value=>SndS cx ch N k (.asg t x) (.Assign [tg] value p)) value fun el gs sc vp=>match isTup tg with
  |true=>onTup (P:=fun tg=>SndS cx ch N k (.asg t x) (.Assign [tg] (.ListComp el gs sc vp) p)) tg fun ts c d=>(chkX G.toGood3 C hN k x (.ListComp el gs sc vp)).on fun hx=>(chkG G C hN k t (.Tuple ts c d)).on fun hg=>.ok (no_implicit_lambda% st_asgL @hx @hg)
  |false=>onName (P:=fun tg=>SndS cx ch N k (.asg t x) (.Assign [tg] (.ListComp el gs sc vp) p)) tg fun z np=>match t with
   |.loc i=>isE (firstAsync gs) fun fa=>isT (okL k i z) fun o1=>isT (isLocK k z) fun o2=>(chkC G C hN k x el gs sc vp).on fun hc=>(chkX G.toGood3 C hN k x (.ListComp el gs sc vp)).on fun hx=>.ok (no_implicit_lambda% st_asgC fa o1 o2 @hc @hx)
   |_=>none
 |false=>match isTup value&&isTL tg with
  |true=>onTup (P:=fun value=>SndS cx ch N k (.asg t x) (.Assign [tg] value p)) value fun vs c d=>onTup (P:=fun tg=>SndS cx ch N k (.asg t x) (.Assign [tg] (.Tuple vs c d) p)) tg fun ts c' d'=>match t with
   |.tup tgs=>isE (hasStar vs) fun hst=>(chkX G.toGood3 C hN k x (.Tuple vs c d)).on fun hx=>(chkG G C hN k (.tup tgs) (.Tuple ts c' d')).on fun hg=>match hn:swpN k ts vs with
    |none=>.ok (no_implicit_lambda% st_asgT hst (.inl hn) @hx @hg)
    |some ns=>isP ns.Nodup fun h1=>isP (vs.all (foldedForSure 8)=true∨vs.all (constantsAlone 8)=false) fun h2=>(chkSwpT k tgs ts).on fun h3=>.ok (no_implicit_lambda% st_asgT hst (.inr ⟨ns,hn,h1,h2,h3⟩) @hx @hg)
   |_=>none
  |false=>isE (isStar tg) fun h0=>isE (isLC value) fun h1=>isP (isTup value=false∨isTL tg=false) fun h2=>(chkX G.toGood3 C hN k x value).on fun hx=>(chkG G C hN k t tg).on fun hg=>.ok (no_implicit_lambda% st_asg @h0 @h1 @h2 @hx @hg)
section
variable {P:PySem.Stmt→Prop}(e:PySem.Stmt)
noncomputable def onRet (f:∀v p,Chk (P (.Return v p))):Chk (P e):=if h:e.ctorIdx=3 then Stmt.Return.elim e h f else none
noncomputable def onAsg (f:∀ts v p,Chk (P (.Assign ts v p))):Chk (P e):=if h:e.ctorIdx=5 then Stmt.Assign.elim e h f else none
noncomputable def onFor (f:∀t i b p,Chk (P (.For t i b [] p))):Chk (P e):=if h:e.ctorIdx=9 then Stmt.For.elim e h fun t i b o p=>on0 (P:=fun o=>P (.For t i b o p)) o (f t i b p) else none
noncomputable def onWhl (f:∀t b p,Chk (P (.While t b [] p))):Chk (P e):=if h:e.ctorIdx=11 then Stmt.While.elim e h fun t b o p=>on0 (P:=fun o=>P (.While t b o p)) o (f t b p) else none
noncomputable def onIfS (f:∀t x y p,Chk (P (.If t x y p))):Chk (P e):=if h:e.ctorIdx=12 then Stmt.If.elim e h f else none
noncomputable def onRse (f:∀x c p,Chk (P (.Raise x c p))):Chk (P e):=if h:e.ctorIdx=16 then Stmt.Raise.elim e h f else none
noncomputable def onTry (f:∀b hs p,Chk (P (.Try b hs [] [] p))):Chk (P e):=if h:e.ctorIdx=17 then Stmt.Try.elim e h fun b hs o fi p=>on0 (P:=fun o=>P (.Try b hs o fi p)) o (on0 (P:=fun fi=>P (.Try b hs [] fi p)) fi (f b hs p)) else none
noncomputable def onExp (f:∀v p,Chk (P (.Expr v p))):Chk (P e):=if h:e.ctorIdx=24 then Stmt.Expr.elim e h f else none
noncomputable def onPas (f:∀p,Chk (P (.Pass p))):Chk (P e):=if h:e.ctorIdx=25 then Stmt.Pass.elim e h f else none
noncomputable def onCnt (f:∀p,Chk (P (.Continue p))):Chk (P e):=if h:e.ctorIdx=27 then Stmt.Continue.elim e h f else none
end
noncomputable def onSome {α:Type}{P:Option α→Prop}(o:Option α)(f:∀a,Chk (P (some a))):Chk (P o):=match o with |some a=>f a |none=>none
noncomputable def onNone {α:Type}{P:Option α→Prop}(o:Option α)(f:Chk (P none)):Chk (P o):=match o with |some _=>none |none=>f
noncomputable def on1 {α:Type}{P:List α→Prop}(l:List α)(f:∀a,Chk (P [a])):Chk (P l):=match l with | [a]=>f a |_=>none
noncomputable def chkHd (h:Hd)(b:List PySem.Stmt):Chk (OkHd h b):=match h with
 |.retNone=>on1 (P:=fun b=>OkHd .retNone b) b fun s=>onRet (P:=fun s=>OkHd .retNone [s]) s fun v p=>onSome (P:=fun v=>OkHd .retNone [.Return v p]) v fun v=>onCst (P:=fun v=>OkHd .retNone [.Return (some v) p]) v fun c d q=>match c with |.none=>.ok .ret |_=>none
 |.cont=>on1 (P:=fun b=>OkHd .cont b) b fun s=>onCnt (P:=fun s=>OkHd .cont [s]) s fun p=>.ok .cont
variable (cx ch N) in
noncomputable abbrev CkS (t:S):=∀(k:SC) (e:PySem.Stmt),Chk (SndS cx ch N k t e)
variable (cx ch N) in
noncomputable abbrev CkSs (ts:List S):=∀(k:SC) (es:List PySem.Stmt),Chk (SndSs cx ch N k ts es)
noncomputable def q_asg (t:Tg)(x:X):CkS cx ch N (.asg t x):=fun k e=>onAsg e fun ts v p=>on1 (P:=fun ts=>SndS cx ch N k (.asg t x) (.Assign ts v p)) ts fun tg=>chkAsg G C hN k t x tg v p
noncomputable def q_app (o x:X):CkS cx ch N (.app o x):=fun k e=>onExp e fun v p=>onMeth1 (P:=fun v=>SndS cx ch N k (.app o x) (.Expr v p)) v fun v s ap y cp=>isP (s=Str.ofString "append") fun hs=>isT (objM v) fun h=>isP (ap.endLine=cp.line) fun h1=>(chkX G.toGood3 C hN k o v).on fun h2=>isE (isStar y) fun h0=>
 (chkX G.toGood3 C hN k x y).on fun h3=>.ok (no_implicit_lambda% st_appE G.toGood3 hs @h @h1 @h2 @h0 @h3)
noncomputable def q_exp (x:X):CkS cx ch N (.exp x):=fun k e=>onExp e fun v p=>isE (isLC v) fun h=>(chkX G.toGood3 C hN k x v).on fun h1=>.ok (no_implicit_lambda% st_exp @h @h1)
noncomputable def q_ite (c:T)(a b:List S)(A:CkSs cx ch N a)(B:CkSs cx ch N b):CkS cx ch N (.ite c a b):=fun k e=>onIfS e fun t x y p=>(chkT G.toGood3 C hN k c t).on fun h=>(A k x).on fun h1=>(B k y).on fun h2=>.ok (no_implicit_lambda% st_ite @h @h1 @h2)
noncomputable def q_forV (t:Tg)(it:X)(body:List S)(A:CkSs cx ch N body):CkS cx ch N (.forV t it body):=fun k e=>onFor e fun tg iter bd p=>isE (isSet iter) fun h0=>(chkG G C hN k t tg).on fun h=>(chkX G.toGood3 C hN k it iter).on fun h1=>(A k bd).on fun h2=>.ok (no_implicit_lambda% st_forV G.toGood3 @h0 @h @h1 @h2)
noncomputable def q_forR (i:Nat)(n:X)(body:List S)(A:CkSs cx ch N body):CkS cx ch N (.forR i n body):=fun k e=>onFor e fun tg iter bd p=>onName (P:=fun tg=>SndS cx ch N k (.forR i n body) (.For tg iter bd [] p)) tg fun z np=>onCall1 (P:=fun iter=>SndS cx ch N k (.forR i n body) (.For (.Name z np) iter bd [] p)) iter fun c y cp=>
 isT (okL k i z) fun h=>isT (isLocK k z) fun h1=>isT (okGE k "range" c) fun h2=>isE (isStar y) fun h3=>(chkX G.toGood3 C hN k n y).on fun h4=>(A k bd).on fun h5=>.ok (no_implicit_lambda% st_forR G.toGood3 @h @h1 @h2 @h3 @h4 @h5)
noncomputable def q_forE (i j:Nat)(x:X)(body:List S)(A:CkSs cx ch N body):CkS cx ch N (.forE i j x body):=fun k e=>onFor e fun tg iter bd p=>onTup (P:=fun tg=>SndS cx ch N k (.forE i j x body) (.For tg iter bd [] p)) tg fun es tk tp=>onC (P:=fun es=>SndS cx ch N k (.forE i j x body) (.For (.Tuple es tk tp) iter bd [] p)) es fun e1 es=>
 on1 (P:=fun es=>SndS cx ch N k (.forE i j x body) (.For (.Tuple (e1::es) tk tp) iter bd [] p)) es fun e2=>onName (P:=fun e1=>SndS cx ch N k (.forE i j x body) (.For (.Tuple [e1,e2] tk tp) iter bd [] p)) e1 fun zi q1=>onName (P:=fun e2=>SndS cx ch N k (.forE i j x body) (.For (.Tuple [.Name zi q1,e2] tk tp) iter bd [] p)) e2 fun zj q2=>
 onCall1 (P:=fun iter=>SndS cx ch N k (.forE i j x body) (.For (.Tuple [.Name zi q1,.Name zj q2] tk tp) iter bd [] p)) iter fun c y cp=>isT (okL k i zi) fun a1=>isT (isLocK k zi) fun a2=>isT (okL k j zj) fun b1=>isT (isLocK k zj) fun b2=>isP (i≠j) fun hij=>isT (okGE k "enumerate" c) fun h2=>isE (isStar y) fun h3=>
 (chkX G.toGood3 C hN k x y).on fun h4=>(A k bd).on fun h5=>.ok (no_implicit_lambda% st_forE G.toGood3 @a1 @a2 @b1 @b2 hij @h2 @h3 @h4 @h5)
noncomputable def q_whl (c:T)(body:List S)(A:CkSs cx ch N body):CkS cx ch N (.whl c body):=fun k e=>onWhl e fun t bd p=>(chkT G.toGood3 C hN k c t).on fun h=>(A k bd).on fun h1=>.ok (no_implicit_lambda% st_whl @h @h1)
noncomputable def q_ret (x:X):CkS cx ch N (.ret x):=fun k e=>onRet e fun v p=>onSome (P:=fun v=>SndS cx ch N k (.ret x) (.Return v p)) v fun v=>(chkX G.toGood3 C hN k x v).on fun h=>.ok (no_implicit_lambda% st_ret @h)
noncomputable def q_rse (c:Nat)(w:String):CkS cx ch N (.rse c w):=fun k e=>onRse e fun x y p=>onNone (P:=fun y=>SndS cx ch N k (.rse c w) (.Raise x y p)) y (onSome (P:=fun x=>SndS cx ch N k (.rse c w) (.Raise x none p)) x fun x=>onCall1 (P:=fun x=>SndS cx ch N k (.rse c w) (.Raise (some x) none p)) x fun f v cp=>onCst (P:=fun v=>SndS cx ch N k (.rse c w) (.Raise (some (.Call f [v] [] cp)) none p)) v fun d kd vp=>match d with
 |.str z=>h6.on fun h=>isP (z=Str.ofString w) fun hz=>isP (c≤1) fun h1=>isT (okGE k (clsName c) f) fun h2=>.ok (no_implicit_lambda% st_rseE G.toGood4 @h hz @h1 @h2)
 |_=>none)
noncomputable def q_try (body:List S)(c:Nat)(h:Hd)(A:CkSs cx ch N body):CkS cx ch N (.tryc body c h):=fun k e=>onTry e fun bd hs p=>match hs with
 | [.ExceptHandler (some t) none hb _]=>(A k bd).on fun h1=>isP (c≤1) fun h2=>isT (okGE k (clsName c) t) fun h3=>(chkHd h hb).on fun h4=>.ok (no_implicit_lambda% st_try G @h1 @h2 @h3 @h4)
 |_=>none
noncomputable def q_cont:CkS cx ch N .cont:=fun k e=>onCnt e fun p=>.ok st_cont
noncomputable def q_pass:CkS cx ch N .pass:=fun k e=>onPas e fun p=>.ok st_pass
noncomputable def q_frz (i:Nat):CkS cx ch N (.frz i):=fun ω ω=>none
noncomputable def q_nil:CkSs cx ch N []:=fun ω es=>on0 es (.ok .nil)
noncomputable def isFrz (t:S):Bool:=match t with
 |.frz _=>true
 |_=>false
theorem isFrz_ {k:SC}{t:S}{r:List S}{es:List PySem.Stmt}(h:SndSs cx ch N k r es):isFrz t=true→SndSs cx ch N k (t::r) es:=by
 cases t with
 |frz i=>exact fun ω=>.frz h
 |_=>exact fun e=>absurd e Bool.false_ne_true
noncomputable def q_cons (t:S)(r:List S)(A:CkS cx ch N t)(R:CkSs cx ch N r):CkSs cx ch N (t::r):=fun k es=>if h:isFrz t=true then (R k es).on fun h1=>.ok (isFrz_ @h1 h) else
 onC es fun e es=>(A k e).on fun h=>(R k es).on fun h1=>.ok (.cons @h @h1)
noncomputable def chkS (k:SC)(t:S)(e:PySem.Stmt):Chk (SndS cx ch N k t e):=S.rec (motive_1:=CkS cx ch N) (motive_2:=CkSs cx ch N) (q_asg G C hN) (q_app G C hN) (q_exp G C hN) (q_ite G C hN) (q_forV G C hN) (q_forR G C hN) (q_forE G C hN) (q_whl G C hN) (q_ret G C hN) (q_rse G h6) (q_try G) q_cont q_pass q_frz q_nil q_cons t k e
noncomputable def chkSs (k:SC)(ts:List S)(es:List PySem.Stmt):Chk (SndSs cx ch N k ts es):=List.rec (motive:=CkSs cx ch N) q_nil (fun t r R=>q_cons t r (fun k e=>chkS G C hN h6 k t e) R) ts k es
end
noncomputable def FnB (cx:Cx)(k:SC)(ss:List S)(body:List PySem.Stmt):Prop:=∀{ch N},ChOK cx ch N→6≤N→SndSs cx ch N k ss body
noncomputable def InB (cx:Cx)(k:SC)(ss:List S)(body:List PySem.Stmt):Prop:=∀{ch N},ChOK cx ch N→(∀c as σ Q E,¬ch.i c as σ Q E)→SndSs cx ch N k ss body
structure Tab (cx:Cx)(C:Code):Prop where
 f:∀f d,C.f f=some d→FnOK cx (FnB cx) (fnAddr f) d
 i:∀c d,C.i c=some d→FnOK cx (InB cx) (initAddr c) d
theorem ch0_ok {cx:Cx}{N:Nat}:ChOK cx ch0 N:=⟨fun ω ω ω ω ω ω ω q=>q.elim,fun ω ω ω ω ω ω ω q=>q.elim⟩
theorem ch_ok {cx:Cx}(G:Good5 cx){C:Code}(T:Tab cx C):∀n,ChOK cx ⟨wpF C n,wpI C⟩ (n+6):=by
 have hi:∀{A:Around} {envs F aux σ} {s g:Shared} {c:Nat} {vs:List Value} {args:List V} {Q:PX} {E:PE},AOK A 4→A.frames=some envs→EnvsOK envs F→F≠[]→SS g s→Inv cx F aux σ s.heap→VRs vs args→wpI C c args σ Q E→
   codeAny cx.M A (.call (.ref (initAddr c)) ⟨vs,[]⟩) (PR cx F aux envs g Q E) s:=by
  intro A envs F aux σ s g c vs args Q E ao hfr eo ne ss J r q
  obtain ⟨d,hd,q⟩:=q
  exact fn_ok (N:=3) G.toGood3 G.lim (T.i c d hd) (fun hb=>hb ch0_ok fun ω ω ω ω ω q=>q) ao hfr eo ne ss J r q
 intro n
 induction n with
 |zero=>exact ⟨fun ω ω ω ω ω ω ω q=>q.elim,hi⟩
 |succ n ih=>
  refine ⟨?_,hi⟩
  intro A envs F aux σ s g f vs args Q E ao hfr eo ne ss J r q
  obtain ⟨d,hd,q⟩:=q
  exact fn_ok (N:=n+6) G.toGood3 G.lim (T.f f d hd) (fun hb=>hb ih (Nat.le_add_left ..)) (by rw [show n+1+6=n+6+1 by (first |lia |omega)] at ao;exact ao) hfr eo ne ss J r q
end Internal
end
section
open PySem PySem.W PySem.Calls PyProof.Rows
set_option maxRecDepth 100000
namespace Internal
noncomputable def fdOf (o:Option Obj):FuncData:=match o with
 |some ⟨_,_,.func fd,_⟩=>fd
 |_=>default
noncomputable def bodyL (fd:FuncData):List PySem.Stmt:=match fd.body with
 |.stmts b=>b
 |_=>[]
noncomputable abbrev fnObj (fd:FuncData):Obj:=⟨.type "function",none,.func fd,#[]⟩
noncomputable def fnOKb (K:Frag)(fd:FuncData)(d:Fd):Bool:=(fd.globals==mainGlobals)&&((fd.builtins==builtinsNs)&&(fd.closure.isEmpty&&(codeIn K fd.code fd.qualname&&
   ((fd.scope.kind==.function)&&(!fd.scope.isCoroutine&&(!fd.scope.isGenerator&&((d.nm.all fun x=>fd.scope.names.lookup (Str.ofString x)==some .local||fd.scope.names.lookup (Str.ofString x)==some .cell)&&(Nat.ble (fd.scope.names.filter (·.2==.cell)).length 1&&(decide d.nm.Nodup&&Nat.ble d.np d.nm.length)))))))))
theorem map_eq {α β:Type}{f g:α→β}:∀{l:List α},l.map f=l.map g→∀x∈l,f x=g x
 |_::_,h,_,.head _=>(List.cons.inj h).1
 |_::_,h,_,.tail _ m=>map_eq (List.cons.inj h).2 _ m
noncomputable def bindT (d:Fd)(f:Nat→Value):List (PySem.Str×Value):=((d.nm.take d.np).map Str.ofString).zip ((List.range d.np).map f)
theorem range_get (vals:List Value):(List.range vals.length).map (fun i=>vals.getD i .none)=vals:=
 List.ext_getElem (by rw [List.length_map,List.length_range]) fun i h h'=>by rw [List.getElem_map,List.getElem_range,List.getD_eq_getElem?_getD,List.getElem?_eq_getElem h'];rfl
theorem fnOK_of {cx:Cx}{B:SC→List S→List PySem.Stmt→Prop}{a:Addr}{d:Fd}{fd:FuncData}(h1:cx.K.lookup a=some (fnObj fd))(h2:fd.body=.stmts (bodyL fd))(h3:∀f:Nat→Value,bindArgs fd ⟨(List.range d.np).map f,[]⟩=pure (bindT d f))
  (h:fnOKb cx.K fd d=true)(hB:B ⟨d.nm,fd.scope.names⟩ d.body (bodyL fd)):FnOK cx B a d:=
 have a2:=an2 h
 have a3:=an2 a2
 have a4:=an2 a3
 have a5:=an2 a4
 have a6:=an2 a5
 have a7:=an2 a6
 have a8:=an2 a7
 have a9:=an2 a8
 ⟨⟨_,fd,_,h1,rfl,h2,eq_of_beq (an1 h),eq_of_beq (an1 a2),List.isEmpty_iff.mp (an1 a3),an1 a4,eq_of_beq (an1 a5),(Bool.not_eq_true' _).mp (an1 a6),(Bool.not_eq_true' _).mp (an1 a7),fun vals hv=>by
   have:=h3 fun i=>vals.getD i .none
   rw [bindT,←hv,range_get] at this
   rw [←hv];exact this,
  fun x hx=>(Bool.or_eq_true_iff.mp (List.all_eq_true.mp (an1 a8) x hx)).imp eq_of_beq eq_of_beq,Nat.le_of_ble_eq_true (an1 a9),hB⟩,of_decide_eq_true (an1 (an2 a9)),Nat.le_of_ble_eq_true (an2 (an2 a9))⟩
end Internal
end
section
open PySem PySem.W PyProof.Rows
set_option maxRecDepth 100000
namespace MineH
noncomputable section
noncomputable abbrev pr:Program:=PySem.Challenge.rw_pq0408_01.row.toRowW.1
noncomputable def bd:List Stmt:=behindTheImports pr
noncomputable def ev:Env:={scope:=pr.main.scope,locals:=mainNs,globals:=mainNs,cells:=[],code:=.ref 13,frame:=some 14}
noncomputable def cdE:Code:=.body bd ev
namespace Hd
noncomputable def s (x:String)(t:Nat):Value:=.str (Str.ofString x) t
noncomputable def i (n:Int)(t:Nat):Value:=.int n t
noncomputable def r (a:Nat):Value:=.ref a
noncomputable def et:Obj:=⟨.type "tuple",none,.seq #[],#[]⟩
noncomputable def en:Obj:=⟨.none,none,.fields #[],#[]⟩
noncomputable def tu (vs:Array Value):Obj:=⟨.type "tuple",none,.seq vs,#[]⟩
noncomputable def sls:Nat→List String→List Value
 |_,[]=>[]
 |t,x::l=>s x t::sls (t+1) l
noncomputable def ts (t:Nat)(l:List String):Obj:=tu (sls t l).toArray
noncomputable def fi (vs:Array Value):Obj:=⟨.none,none,.fields vs,#[]⟩
noncomputable def e (P:Params)(k:String)(t:Nat)(v:Value):DictEntry:=⟨PyData.keyHash P (Str.ofString k),.str (Str.ofString k) t,v⟩
noncomputable def d (es:List DictEntry)(n:Nat):Data:=.dict es.toArray n
noncomputable def di (x:Data):Obj:=⟨.type "dict",none,x,#[]⟩
noncomputable def S (k:Nat):Stmt:=(bd[k]?).getD (.Pass ⟨0,0,0,0⟩)
noncomputable def M (k j:Nat):Stmt:=match S k with
 |.ClassDef _ _ _ b _ _ _ _ _ _ _=>(b[j]?).getD (.Pass ⟨0,0,0,0⟩)
 |x=>x
noncomputable def f (st:Stmt)(nm qn:String)(g:Addr)(cl:List (Str×Addr))(a b dc md:Value)(an:Option Addr)(cd ct:Value)(bi:Addr):Data:=match st with
 |.FunctionDef _ ps b' _ _ _ sc _ _ _=>.func ⟨Str.ofString nm,Str.ofString qn,ps,.stmts b',sc,g,cl,a,b,dc,md,an,cd,ct,bi⟩
 |_=>.plain
noncomputable def fn (x:Data):Obj:=⟨.none,none,x,#[]⟩
noncomputable def fo (x:Data):Obj:=⟨.type "function",none,x,#[]⟩
noncomputable def c (nm:String)(bs mro:List Value)(ns:Addr)(qn:String)(hd:Bool)(sn:List String)(sub:List Value)(ab:Bool)(co:Option Bool)(del:Bool):Data:=
 .cls ⟨Str.ofString nm,bs,mro,ns,Str.ofString qn,hd,sn.map Str.ofString,sub,ab,co,del⟩
noncomputable def co (nm qn:String)(t ln cl a b fl:Nat)(v:Nat)(o:Bool)(w:Nat)(x y z:Value)(t2 t3:Nat):Obj:=
 ⟨.type "code",none,.fields #[s nm t,s qn (t+1),s "/claim/cut.py" (t+2),i ln 0,i cl 0,i a 0,i b 0,i fl 0,r v,.bool o,i 181 0,r w,.none,x,y,z,i t2 0,i ln 0,s "/claim/cut.py" t3],#[]⟩
noncomputable def upd:List (Nat×Obj)→List Obj→List Obj
 | [],l=>l
 |(k,o)::m,l=>upd m (l.set k o)
noncomputable def evens:List Obj→List Obj
 | []=>[]
 | [a]=>[a]
 |a::_::l=>a::evens l
noncomputable def bt:Nat→List Obj→BT
 |0,_=>.nil
 |_,[]=>.nil
 |n+1,v::l=>.node v (bt n (evens l)) (bt n (evens l.tail))
noncomputable def L47 (P:Params):List Obj:=[boot_o_0 P,
 boot_o_1 P,
 boot_o_2 P,
 boot_o_3 P,
 boot_o_4 P,
 boot_o_5 P,
 boot_o_6 P,
 boot_o_7 P,
 boot_o_8 P,
 boot_o_9 P,
 boot_o_10 P,
 et,
 en,
 co "<module>" "<module>" 182 1 0 0 0 0 11 false 12 .none .none .none 185 186,
 ⟨(.type "frame"),none,.plain,#[(some (r 13)),(some (r 3)),(some (r 3)),none,(some (s "__main__" 164)),none,(some (r 0))]⟩]
noncomputable def L144 (P:Params):List Obj:=upd [(2,⟨.none,none,(d [e P "type.__subclasses__.Exception.0" 214 (i 31 0),e P "type.__subclasses__.Exception.n" 215 (i 1 0)] 2),#[]⟩),
 (3,di (d [e P "__name__" 165 (s "gasledger.rlp" 279),e P "__doc__" 166 .none,e P "__package__" 167 .none,e P "__loader__" 168 (.builtin "__main__.__loader__#opaque"),e P "__spec__" 169 .none,e P "__annotations__" 170 (r 6),e P "__builtins__" 171 (r 4),e P "__file__" 173 (s "/claim/cut.py" 172),e P "__cached__" 174 .none,e P "MachineFault" 217 (r 31),e P "RlpFault" 233 (r 44),e P "bloom_octets" 243 (r 53),e P "Log" 278 (r 70),e P "DEEPEST" 282 (i 60 281),e P "OCTETS_rlp" 284 (i 128 283),e P "LIST" 286 (i 192 285),e P "SHORT" 288 (i 55 287),e P "number_octets" 295 (r 81),e P "octets_number" 302 (r 88),e P "head" 311 (r 95),e P "encoded_at" 321 (r 102)] 21)),
 (12,fi #[(i 2 0),(i 0 0),(r 20),(i 7 0),(i 0 0),(r 40),(i 10 0),(i 0 0),(r 52),(i 15 0),(i 0 0),(r 59),(i 26 0),(i 0 0),(r 80),(i 30 0),(i 0 0),(r 87),(i 34 0),(i 0 0),(r 94),(i 39 0),(i 0 0),(r 101)])] (L47 P)++[tu #[(.type "Exception")],
 ⟨(.type "builtin_function_or_method"),none,(.fields #[(.builtin "type.__prepare__"),(.type "type")]),#[]⟩,
 di (d [e P "__module__" 196 (s "gasledger.errors" 187),e P "__qualname__" 198 (s "MachineFault" 197),e P "__firstlineno__" 200 (i 2 199),e P "__init__" 208 (r 28),e P "__static_attributes__" 210 (r 29)] 5),
 et,
 fi #[(i 4 0),(i 4 0),(r 27)],
 co "MachineFault" "MachineFault" 191 2 0 0 0 0 18 false 19 .none .none .none 194 195,
 ⟨(.type "frame"),none,.plain,#[(some (r 20)),(some (r 3)),(some (r 17)),none,(some (s "gasledger.errors" 187)),none,(some (r 0))]⟩,
 et,
 en,
 ts 204 ["self", "word"],
 et,
 fn (f (M 1 0) "__init__" "MachineFault.__init__" 0 [] .none .none .none .none none .none .none 0),
 co "__init__" "MachineFault.__init__" 201 4 2 0 0 3 22 true 23 (r 24) (r 25) (r 26) 206 207,
 fo (f (M 1 0) "__init__" "MachineFault.__init__" 3 [] .none .none .none (s "gasledger.errors" 187) none (r 27) .none 0),
 ts 209 ["word"],
 di (d [e P "__module__" 196 (s "gasledger.errors" 187),e P "__firstlineno__" 200 (i 2 199),e P "__init__" 208 (r 28),e P "__static_attributes__" 210 (r 29),e P "__weakref__" 212 (r 32),e P "__doc__" 213 .none] 3),
 ⟨(.type "type"),none,(c "MachineFault" [(.type "Exception")] [(r 31),(.type "Exception"),(.type "BaseException"),(.type "object")] 30 "MachineFault" true [] [(r 44)] false none false),#[(some (r 15)),none,(some (s "MachineFault" 189)),(some (s "MachineFault" 197)),(some (.builtin "Exception.__new__")),(some (.bool true))]⟩,
 ⟨(.type "getset_descriptor"),none,(.fields #[(s "__weakref__" 211),(r 31),(.builtin "ExceptionGroup.__weakref__"),.none]),#[]⟩,
 ⟨(.type "super"),none,(.fields #[(r 31),(r 31),(r 31)]),#[]⟩,
 ⟨(.type "builtin_function_or_method"),none,(.fields #[(.builtin "object.__init_subclass__"),(r 31)]),#[]⟩,
 tu #[(r 31)],
 ⟨(.type "builtin_function_or_method"),none,(.fields #[(.builtin "type.__prepare__"),(.type "type")]),#[]⟩,
 di (d [e P "__module__" 225 (s "gasledger.errors" 187),e P "__qualname__" 227 (s "RlpFault" 226),e P "__firstlineno__" 229 (i 7 228),e P "__static_attributes__" 230 (r 42)] 4),
 et,
 en,
 co "RlpFault" "RlpFault" 220 7 0 0 0 0 38 false 39 .none .none .none 223 224,
 ⟨(.type "frame"),none,.plain,#[(some (r 40)),(some (r 3)),(some (r 37)),none,(some (s "gasledger.errors" 187)),none,(some (r 0))]⟩,
 et,
 di (d [e P "__module__" 225 (s "gasledger.errors" 187),e P "__firstlineno__" 229 (i 7 228),e P "__static_attributes__" 230 (r 42),e P "__doc__" 231 .none] 2),
 ⟨(.type "type"),none,(c "RlpFault" [(r 31)] [(r 44),(r 31),(.type "Exception"),(.type "BaseException"),(.type "object")] 43 "RlpFault" true [] [] false none false),#[(some (r 35)),none,(some (s "RlpFault" 218)),(some (s "RlpFault" 226)),(some (.builtin "Exception.__new__")),(some (.bool true))]⟩,
 ⟨(.type "super"),none,(.fields #[(r 44),(r 44),(r 44)]),#[]⟩,
 ⟨(.type "builtin_function_or_method"),none,(.fields #[(.builtin "object.__init_subclass__"),(r 44)]),#[]⟩,
 et,
 en,
 ts 239 ["bloom", "bits"],
 et,
 fn (f (S 4) "bloom_octets" "bloom_octets" 0 [] .none .none .none .none none .none .none 0),
 co "bloom_octets" "bloom_octets" 236 10 2 0 0 3 47 true 48 (r 49) (r 50) (r 51) 241 242,
 fo (f (S 4) "bloom_octets" "bloom_octets" 3 [] .none .none .none (s "gasledger.bloom" 234) none (r 52) .none 0),
 et,
 ⟨(.type "builtin_function_or_method"),none,(.fields #[(.builtin "type.__prepare__"),(.type "type")]),#[]⟩,
 di (d [e P "__module__" 253 (s "gasledger.account" 244),e P "__qualname__" 255 (s "Log" 254),e P "__firstlineno__" 257 (i 15 256),e P "__init__" 267 (r 67),e P "__static_attributes__" 271 (r 68)] 5),
 et,
 fi #[(i 17 0),(i 4 0),(r 66)],
 co "Log" "Log" 248 15 0 0 0 0 57 false 58 .none .none .none 251 252,
 ⟨(.type "frame"),none,.plain,#[(some (r 59)),(some (r 3)),(some (r 56)),none,(some (s "gasledger.account" 244)),none,(some (r 0))]⟩,
 et,
 en,
 ts 261 ["self", "address", "topics", "data"],
 et,
 fn (f (M 6 0) "__init__" "Log.__init__" 0 [] .none .none .none .none none .none .none 0),
 co "__init__" "Log.__init__" 258 17 4 0 0 3 61 true 62 (r 63) (r 64) (r 65) 265 266,
 fo (f (M 6 0) "__init__" "Log.__init__" 3 [] .none .none .none (s "gasledger.account" 244) none (r 66) .none 0),
 ts 268 ["address", "data", "topics"],
 di (d [e P "__module__" 253 (s "gasledger.account" 244),e P "__firstlineno__" 257 (i 15 256),e P "__init__" 267 (r 67),e P "__static_attributes__" 271 (r 68),e P "__dict__" 273 (r 71),e P "__weakref__" 275 (r 72),e P "__doc__" 276 .none] 4),
 ⟨(.type "type"),none,(c "Log" [(.type "object")] [(r 70),(.type "object")] 69 "Log" true [] [] false none false),#[none,none,(some (s "Log" 246)),(some (s "Log" 254)),(some (.builtin "object.__new__")),(some (.bool true))]⟩,
 ⟨(.type "getset_descriptor"),none,(.fields #[(s "__dict__" 272),(r 70),(.builtin "function.__dict__"),(.builtin "function.__dict__#set")]),#[]⟩,
 ⟨(.type "getset_descriptor"),none,(.fields #[(s "__weakref__" 274),(r 70),(.builtin "ExceptionGroup.__weakref__"),.none]),#[]⟩,
 ⟨(.type "super"),none,(.fields #[(r 70),(r 70),(r 70)]),#[]⟩,
 ⟨(.type "builtin_function_or_method"),none,(.fields #[(.builtin "object.__init_subclass__"),(r 70)]),#[]⟩,
 et,
 en,
 ts 292 ["n"],
 et,
 fn (f (S 12) "number_octets" "number_octets" 0 [] .none .none .none .none none .none .none 0),
 co "number_octets" "number_octets" 289 26 1 0 0 3 75 true 76 (r 77) (r 78) (r 79) 293 294,
 fo (f (S 12) "number_octets" "number_octets" 3 [] .none .none .none (s "gasledger.rlp" 279) none (r 80) .none 0),
 et,
 en,
 ts 299 ["octets"],
 et,
 fn (f (S 13) "octets_number" "octets_number" 0 [] .none .none .none .none none .none .none 0),
 co "octets_number" "octets_number" 296 30 1 0 0 3 82 true 83 (r 84) (r 85) (r 86) 300 301,
 fo (f (S 13) "octets_number" "octets_number" 3 [] .none .none .none (s "gasledger.rlp" 279) none (r 87) .none 0),
 et,
 en,
 ts 306 ["low", "size", "told"],
 et,
 fn (f (S 14) "head" "head" 0 [] .none .none .none .none none .none .none 0),
 co "head" "head" 303 34 2 0 0 3 89 true 90 (r 91) (r 92) (r 93) 309 310,
 fo (f (S 14) "head" "head" 3 [] .none .none .none (s "gasledger.rlp" 279) none (r 94) .none 0),
 et,
 en,
 ts 315 ["item", "depth", "body", "part"],
 et,
 fn (f (S 15) "encoded_at" "encoded_at" 0 [] .none .none .none .none none .none .none 0),
 co "encoded_at" "encoded_at" 312 39 2 0 0 3 96 true 97 (r 98) (r 99) (r 100) 319 320,
 fo (f (S 15) "encoded_at" "encoded_at" 3 [] .none .none .none (s "gasledger.rlp" 279) none (r 101) .none 0)]
noncomputable def L266 (P:Params):List Obj:=upd [(3,di (d [e P "__name__" 165 (s "gasledger.setting" 504),e P "__doc__" 166 .none,e P "__package__" 167 .none,e P "__loader__" 168 (.builtin "__main__.__loader__#opaque"),e P "__spec__" 169 .none,e P "__annotations__" 170 (r 6),e P "__builtins__" 171 (r 4),e P "__file__" 173 (s "/claim/cut.py" 172),e P "__cached__" 174 .none,e P "MachineFault" 217 (r 31),e P "RlpFault" 233 (r 44),e P "bloom_octets" 243 (r 53),e P "Log" 278 (r 70),e P "DEEPEST" 282 (i 60 281),e P "OCTETS_rlp" 284 (i 128 283),e P "LIST" 286 (i 192 285),e P "SHORT" 288 (i 55 287),e P "number_octets" 295 (r 81),e P "octets_number" 302 (r 88),e P "head" 311 (r 95),e P "encoded_at" 321 (r 102),e P "encoded" 328 (r 109),e P "read_size" 338 (r 116),e P "read_head" 351 (r 123),e P "read_item" 365 (r 130),e P "decoded" 374 (r 137),e P "WORD" 380 (i 115792089237316195423570985008687907853269984665640564039457584007913129639936 379),e P "ADDRESSES" 384 (i 1461501637330902918203684832716283019655932542976 383),e P "OCTETS_words" 386 (i 32 385),e P "led" 393 (r 144),e P "word_octets" 400 (r 151),e P "octets_word" 407 (r 158),e P "LONG" 413 (i 18446744073709551616 412),e P "read_number" 422 (r 165),e P "read_fixed" 430 (r 172),e P "MOST_TOPICS" 434 (i 4 433),e P "Receipt" 471 (r 189),e P "log_item" 477 (r 198),e P "receipt_octets" 483 (r 203),e P "read_log" 489 (r 208),e P "read_bloom" 497 (r 215),e P "read_receipt" 503 (r 220)] 42)),
 (12,fi #[(i 2 0),(i 0 0),(r 20),(i 7 0),(i 0 0),(r 40),(i 10 0),(i 0 0),(r 52),(i 15 0),(i 0 0),(r 59),(i 26 0),(i 0 0),(r 80),(i 30 0),(i 0 0),(r 87),(i 34 0),(i 0 0),(r 94),(i 39 0),(i 0 0),(r 101),(i 52 0),(i 0 0),(r 108),(i 54 0),(i 0 0),(r 115),(i 61 0),(i 0 0),(r 122),(i 77 0),(i 0 0),(r 129),(i 90 0),(i 0 0),(r 136),(i 99 0),(i 0 0),(r 143),(i 101 0),(i 0 0),(r 150),(i 103 0),(i 0 0),(r 157),(i 107 0),(i 0 0),(r 164),(i 116 0),(i 0 0),(r 171),(i 122 0),(i 0 0),(r 178),(i 130 0),(i 0 0),(r 197),(i 136 0),(i 0 0),(r 202),(i 143 0),(i 0 0),(r 207),(i 149 0),(i 0 0),(r 214),(i 153 0),(i 0 0),(r 219)])] (L144 P)++[et,
 en,
 ts 325 ["item"],
 et,
 fn (f (S 16) "encoded" "encoded" 0 [] .none .none .none .none none .none .none 0),
 co "encoded" "encoded" 322 52 1 0 0 3 103 true 104 (r 105) (r 106) (r 107) 326 327,
 fo (f (S 16) "encoded" "encoded" 3 [] .none .none .none (s "gasledger.rlp" 279) none (r 108) .none 0),
 et,
 en,
 ts 332 ["octets", "place", "many", "size"],
 et,
 fn (f (S 17) "read_size" "read_size" 0 [] .none .none .none .none none .none .none 0),
 co "read_size" "read_size" 329 54 3 0 0 3 110 true 111 (r 112) (r 113) (r 114) 336 337,
 fo (f (S 17) "read_size" "read_size" 3 [] .none .none .none (s "gasledger.rlp" 279) none (r 115) .none 0),
 et,
 en,
 ts 342 ["octets", "place", "first", "is_list", "size", "start", "many"],
 et,
 fn (f (S 18) "read_head" "read_head" 0 [] .none .none .none .none none .none .none 0),
 co "read_head" "read_head" 339 61 2 0 0 3 117 true 118 (r 119) (r 120) (r 121) 349 350,
 fo (f (S 18) "read_head" "read_head" 3 [] .none .none .none (s "gasledger.rlp" 279) none (r 122) .none 0),
 et,
 en,
 ts 355 ["octets", "place", "depth", "is_list", "start", "end", "found", "item"],
 et,
 fn (f (S 19) "read_item" "read_item" 0 [] .none .none .none .none none .none .none 0),
 co "read_item" "read_item" 352 77 3 0 0 3 124 true 125 (r 126) (r 127) (r 128) 363 364,
 fo (f (S 19) "read_item" "read_item" 3 [] .none .none .none (s "gasledger.rlp" 279) none (r 129) .none 0),
 et,
 en,
 ts 369 ["octets", "item", "end"],
 et,
 fn (f (S 20) "decoded" "decoded" 0 [] .none .none .none .none none .none .none 0),
 co "decoded" "decoded" 366 90 1 0 0 3 131 true 132 (r 133) (r 134) (r 135) 372 373,
 fo (f (S 20) "decoded" "decoded" 3 [] .none .none .none (s "gasledger.rlp" 279) none (r 136) .none 0),
 et,
 en,
 ts 390 ["n"],
 et,
 fn (f (S 25) "led" "led" 0 [] .none .none .none .none none .none .none 0),
 co "led" "led" 387 99 1 0 0 3 138 true 139 (r 140) (r 141) (r 142) 391 392,
 fo (f (S 25) "led" "led" 3 [] .none .none .none (s "gasledger.words" 375) none (r 143) .none 0),
 et,
 en,
 ts 397 ["w"],
 et,
 fn (f (S 26) "word_octets" "word_octets" 0 [] .none .none .none .none none .none .none 0),
 co "word_octets" "word_octets" 394 101 1 0 0 3 145 true 146 (r 147) (r 148) (r 149) 398 399,
 fo (f (S 26) "word_octets" "word_octets" 3 [] .none .none .none (s "gasledger.words" 375) none (r 150) .none 0),
 et,
 en,
 ts 404 ["octets"],
 et,
 fn (f (S 27) "octets_word" "octets_word" 0 [] .none .none .none .none none .none .none 0),
 co "octets_word" "octets_word" 401 103 1 0 0 3 152 true 153 (r 154) (r 155) (r 156) 405 406,
 fo (f (S 27) "octets_word" "octets_word" 3 [] .none .none .none (s "gasledger.words" 375) none (r 157) .none 0),
 et,
 en,
 ts 417 ["item", "bound", "number"],
 et,
 fn (f (S 30) "read_number" "read_number" 0 [] .none .none .none .none none .none .none 0),
 co "read_number" "read_number" 414 107 2 0 0 3 159 true 160 (r 161) (r 162) (r 163) 420 421,
 fo (f (S 30) "read_number" "read_number" 3 [] .none .none .none (s "gasledger.transaction" 408) none (r 164) .none 0),
 et,
 en,
 ts 426 ["item", "size"],
 et,
 fn (f (S 31) "read_fixed" "read_fixed" 0 [] .none .none .none .none none .none .none 0),
 co "read_fixed" "read_fixed" 423 116 2 0 0 3 166 true 167 (r 168) (r 169) (r 170) 428 429,
 fo (f (S 31) "read_fixed" "read_fixed" 3 [] .none .none .none (s "gasledger.transaction" 408) none (r 171) .none 0),
 et,
 ⟨(.type "builtin_function_or_method"),none,(.fields #[(.builtin "type.__prepare__"),(.type "type")]),#[]⟩,
 di (d [e P "__module__" 442 (s "gasledger.receipt" 431),e P "__qualname__" 444 (s "Receipt" 443),e P "__firstlineno__" 446 (i 122 445),e P "__init__" 458 (r 186),e P "__static_attributes__" 464 (r 187)] 5),
 et,
 fi #[(i 124 0),(i 4 0),(r 185)],
 co "Receipt" "Receipt" 437 122 0 0 0 0 176 false 177 .none .none .none 440 441,
 ⟨(.type "frame"),none,.plain,#[(some (r 178)),(some (r 3)),(some (r 175)),none,(some (s "gasledger.receipt" 431)),none,(some (r 0))]⟩,
 et,
 en,
 ts 450 ["self", "kind", "is_good", "used", "bloom", "logs"],
 et,
 fn (f (M 34 0) "__init__" "Receipt.__init__" 0 [] .none .none .none .none none .none .none 0),
 co "__init__" "Receipt.__init__" 447 124 6 0 0 3 180 true 181 (r 182) (r 183) (r 184) 456 457,
 fo (f (M 34 0) "__init__" "Receipt.__init__" 3 [] .none .none .none (s "gasledger.receipt" 431) none (r 185) .none 0),
 ts 459 ["bloom", "is_good", "kind", "logs", "used"],
 di (d [e P "__module__" 442 (s "gasledger.receipt" 431),e P "__firstlineno__" 446 (i 122 445),e P "__init__" 458 (r 186),e P "__static_attributes__" 464 (r 187),e P "__dict__" 466 (r 190),e P "__weakref__" 468 (r 191),e P "__doc__" 469 .none] 4),
 ⟨(.type "type"),none,(c "Receipt" [(.type "object")] [(r 189),(.type "object")] 188 "Receipt" true [] [] false none false),#[none,none,(some (s "Receipt" 435)),(some (s "Receipt" 443)),(some (.builtin "object.__new__")),(some (.bool true))]⟩,
 ⟨(.type "getset_descriptor"),none,(.fields #[(s "__dict__" 465),(r 189),(.builtin "function.__dict__"),(.builtin "function.__dict__#set")]),#[]⟩,
 ⟨(.type "getset_descriptor"),none,(.fields #[(s "__weakref__" 467),(r 189),(.builtin "ExceptionGroup.__weakref__"),.none]),#[]⟩,
 ⟨(.type "super"),none,(.fields #[(r 189),(r 189),(r 189)]),#[]⟩,
 ⟨(.type "builtin_function_or_method"),none,(.fields #[(.builtin "object.__init_subclass__"),(r 189)]),#[]⟩,
 et,
 en,
 fn (f (S 35) "log_item" "log_item" 0 [] .none .none .none .none none .none .none 0),
 co "log_item" "log_item" 472 130 1 0 0 3 194 true 195 .none .none (r 196) 475 476,
 fo (f (S 35) "log_item" "log_item" 3 [] .none .none .none (s "gasledger.receipt" 431) none (r 197) .none 0),
 et,
 en,
 fn (f (S 36) "receipt_octets" "receipt_octets" 0 [] .none .none .none .none none .none .none 0),
 co "receipt_octets" "receipt_octets" 478 136 2 0 0 3 199 true 200 .none .none (r 201) 481 482,
 fo (f (S 36) "receipt_octets" "receipt_octets" 3 [] .none .none .none (s "gasledger.receipt" 431) none (r 202) .none 0),
 et,
 en,
 fn (f (S 37) "read_log" "read_log" 0 [] .none .none .none .none none .none .none 0),
 co "read_log" "read_log" 484 143 1 0 0 3 204 true 205 .none .none (r 206) 487 488,
 fo (f (S 37) "read_log" "read_log" 3 [] .none .none .none (s "gasledger.receipt" 431) none (r 207) .none 0),
 et,
 en,
 ts 493 ["item", "bits"],
 et,
 fn (f (S 38) "read_bloom" "read_bloom" 0 [] .none .none .none .none none .none .none 0),
 co "read_bloom" "read_bloom" 490 149 2 0 0 3 209 true 210 (r 211) (r 212) (r 213) 495 496,
 fo (f (S 38) "read_bloom" "read_bloom" 3 [] .none .none .none (s "gasledger.receipt" 431) none (r 214) .none 0),
 et,
 en,
 fn (f (S 39) "read_receipt" "read_receipt" 0 [] .none .none .none .none none .none .none 0),
 co "read_receipt" "read_receipt" 498 153 2 0 0 3 216 true 217 .none .none (r 218) 501 502,
 fo (f (S 39) "read_receipt" "read_receipt" 3 [] .none .none .none (s "gasledger.receipt" 431) none (r 219) .none 0)]
noncomputable def L371 (P:Params):List Obj:=upd [(3,di (d [e P "__name__" 165 (s "gasledger.block" 547),e P "__doc__" 166 .none,e P "__package__" 167 .none,e P "__loader__" 168 (.builtin "__main__.__loader__#opaque"),e P "__spec__" 169 .none,e P "__annotations__" 170 (r 6),e P "__builtins__" 171 (r 4),e P "__file__" 173 (s "/claim/cut.py" 172),e P "__cached__" 174 .none,e P "MachineFault" 217 (r 31),e P "RlpFault" 233 (r 44),e P "bloom_octets" 243 (r 53),e P "Log" 278 (r 70),e P "DEEPEST" 282 (i 60 281),e P "OCTETS_rlp" 284 (i 128 283),e P "LIST" 286 (i 192 285),e P "SHORT" 288 (i 55 287),e P "number_octets" 295 (r 81),e P "octets_number" 302 (r 88),e P "head" 311 (r 95),e P "encoded_at" 321 (r 102),e P "encoded" 328 (r 109),e P "read_size" 338 (r 116),e P "read_head" 351 (r 123),e P "read_item" 365 (r 130),e P "decoded" 374 (r 137),e P "WORD" 380 (i 115792089237316195423570985008687907853269984665640564039457584007913129639936 379),e P "ADDRESSES" 384 (i 1461501637330902918203684832716283019655932542976 383),e P "OCTETS_words" 386 (i 32 385),e P "led" 393 (r 144),e P "word_octets" 400 (r 151),e P "octets_word" 407 (r 158),e P "LONG" 413 (i 18446744073709551616 412),e P "read_number" 422 (r 165),e P "read_fixed" 430 (r 172),e P "MOST_TOPICS" 434 (i 4 433),e P "Receipt" 471 (r 189),e P "log_item" 477 (r 198),e P "receipt_octets" 483 (r 203),e P "read_log" 489 (r 208),e P "read_bloom" 497 (r 215),e P "read_receipt" 503 (r 220),e P "BlockInfo" 546 (r 237),e P "MOST_EXTRA" 550 (i 32 549),e P "NO_NONCE" 553 (.bytes #[0,0,0,0,0,0,0,0] 552),e P "Header" 600 (r 258),e P "Withdrawal" 635 (r 279),e P "need_form" 641 (r 288),e P "no_uncles" 648 (r 295),e P "header_octets" 654 (r 300),e P "header_hash" 663 (r 307),e P "read_root" 670 (r 314),e P "read_header" 676 (r 319)] 53)),
 (12,fi #[(i 2 0),(i 0 0),(r 20),(i 7 0),(i 0 0),(r 40),(i 10 0),(i 0 0),(r 52),(i 15 0),(i 0 0),(r 59),(i 26 0),(i 0 0),(r 80),(i 30 0),(i 0 0),(r 87),(i 34 0),(i 0 0),(r 94),(i 39 0),(i 0 0),(r 101),(i 52 0),(i 0 0),(r 108),(i 54 0),(i 0 0),(r 115),(i 61 0),(i 0 0),(r 122),(i 77 0),(i 0 0),(r 129),(i 90 0),(i 0 0),(r 136),(i 99 0),(i 0 0),(r 143),(i 101 0),(i 0 0),(r 150),(i 103 0),(i 0 0),(r 157),(i 107 0),(i 0 0),(r 164),(i 116 0),(i 0 0),(r 171),(i 122 0),(i 0 0),(r 178),(i 130 0),(i 0 0),(r 197),(i 136 0),(i 0 0),(r 202),(i 143 0),(i 0 0),(r 207),(i 149 0),(i 0 0),(r 214),(i 153 0),(i 0 0),(r 219),(i 161 0),(i 0 0),(r 226),(i 174 0),(i 0 0),(r 247),(i 191 0),(i 0 0),(r 268),(i 198 0),(i 0 0),(r 287),(i 207 0),(i 0 0),(r 294),(i 209 0),(i 0 0),(r 299),(i 216 0),(i 0 0),(r 306),(i 218 0),(i 0 0),(r 313),(i 222 0),(i 0 0),(r 318)])] (L266 P)++[et,
 ⟨(.type "builtin_function_or_method"),none,(.fields #[(.builtin "type.__prepare__"),(.type "type")]),#[]⟩,
 di (d [e P "__module__" 513 (s "gasledger.setting" 504),e P "__qualname__" 515 (s "BlockInfo" 514),e P "__firstlineno__" 517 (i 161 516),e P "__init__" 531 (r 234),e P "__static_attributes__" 539 (r 235)] 5),
 et,
 fi #[(i 163 0),(i 4 0),(r 233)],
 co "BlockInfo" "BlockInfo" 508 161 0 0 0 0 224 false 225 .none .none .none 511 512,
 ⟨(.type "frame"),none,.plain,#[(some (r 226)),(some (r 3)),(some (r 223)),none,(some (s "gasledger.setting" 504)),none,(some (r 0))]⟩,
 et,
 en,
 ts 521 ["self", "number", "time", "beneficiary", "base_fee", "limit", "random", "hashes"],
 et,
 fn (f (M 41 0) "__init__" "BlockInfo.__init__" 0 [] .none .none .none .none none .none .none 0),
 co "__init__" "BlockInfo.__init__" 518 163 8 0 0 3 228 true 229 (r 230) (r 231) (r 232) 529 530,
 fo (f (M 41 0) "__init__" "BlockInfo.__init__" 3 [] .none .none .none (s "gasledger.setting" 504) none (r 233) .none 0),
 ts 532 ["base_fee", "beneficiary", "hashes", "limit", "number", "random", "time"],
 di (d [e P "__module__" 513 (s "gasledger.setting" 504),e P "__firstlineno__" 517 (i 161 516),e P "__init__" 531 (r 234),e P "__static_attributes__" 539 (r 235),e P "__dict__" 541 (r 238),e P "__weakref__" 543 (r 239),e P "__doc__" 544 .none] 4),
 ⟨(.type "type"),none,(c "BlockInfo" [(.type "object")] [(r 237),(.type "object")] 236 "BlockInfo" true [] [] false none false),#[none,none,(some (s "BlockInfo" 506)),(some (s "BlockInfo" 514)),(some (.builtin "object.__new__")),(some (.bool true))]⟩,
 ⟨(.type "getset_descriptor"),none,(.fields #[(s "__dict__" 540),(r 237),(.builtin "function.__dict__"),(.builtin "function.__dict__#set")]),#[]⟩,
 ⟨(.type "getset_descriptor"),none,(.fields #[(s "__weakref__" 542),(r 237),(.builtin "ExceptionGroup.__weakref__"),.none]),#[]⟩,
 ⟨(.type "super"),none,(.fields #[(r 237),(r 237),(r 237)]),#[]⟩,
 ⟨(.type "builtin_function_or_method"),none,(.fields #[(.builtin "object.__init_subclass__"),(r 237)]),#[]⟩,
 et,
 ⟨(.type "builtin_function_or_method"),none,(.fields #[(.builtin "type.__prepare__"),(.type "type")]),#[]⟩,
 di (d [e P "__module__" 561 (s "gasledger.block" 547),e P "__qualname__" 563 (s "Header" 562),e P "__firstlineno__" 565 (i 174 564),e P "__init__" 578 (r 255),e P "__static_attributes__" 593 (r 256)] 5),
 et,
 fi #[(i 176 0),(i 4 0),(r 254)],
 co "Header" "Header" 556 174 0 0 0 0 245 false 246 .none .none .none 559 560,
 ⟨(.type "frame"),none,.plain,#[(some (r 247)),(some (r 3)),(some (r 244)),none,(some (s "gasledger.block" 547)),none,(some (r 0))]⟩,
 et,
 en,
 ts 569 ["self", "parent", "info", "used", "extra", "bloom", "roots"],
 et,
 fn (f (M 45 0) "__init__" "Header.__init__" 0 [] .none .none .none .none none .none .none 0),
 co "__init__" "Header.__init__" 566 176 7 0 0 3 249 true 250 (r 251) (r 252) (r 253) 576 577,
 fo (f (M 45 0) "__init__" "Header.__init__" 3 [] .none .none .none (s "gasledger.block" 547) none (r 254) .none 0),
 ts 579 ["base_fee", "beneficiary", "bloom", "extra", "limit", "number", "parent", "random", "receipts_root", "state_root", "time", "transactions_root", "used", "withdrawals_root"],
 di (d [e P "__module__" 561 (s "gasledger.block" 547),e P "__firstlineno__" 565 (i 174 564),e P "__init__" 578 (r 255),e P "__static_attributes__" 593 (r 256),e P "__dict__" 595 (r 259),e P "__weakref__" 597 (r 260),e P "__doc__" 598 .none] 4),
 ⟨(.type "type"),none,(c "Header" [(.type "object")] [(r 258),(.type "object")] 257 "Header" true [] [] false none false),#[none,none,(some (s "Header" 554)),(some (s "Header" 562)),(some (.builtin "object.__new__")),(some (.bool true))]⟩,
 ⟨(.type "getset_descriptor"),none,(.fields #[(s "__dict__" 594),(r 258),(.builtin "function.__dict__"),(.builtin "function.__dict__#set")]),#[]⟩,
 ⟨(.type "getset_descriptor"),none,(.fields #[(s "__weakref__" 596),(r 258),(.builtin "ExceptionGroup.__weakref__"),.none]),#[]⟩,
 ⟨(.type "super"),none,(.fields #[(r 258),(r 258),(r 258)]),#[]⟩,
 ⟨(.type "builtin_function_or_method"),none,(.fields #[(.builtin "object.__init_subclass__"),(r 258)]),#[]⟩,
 et,
 ⟨(.type "builtin_function_or_method"),none,(.fields #[(.builtin "type.__prepare__"),(.type "type")]),#[]⟩,
 di (d [e P "__module__" 608 (s "gasledger.block" 547),e P "__qualname__" 610 (s "Withdrawal" 609),e P "__firstlineno__" 612 (i 191 611),e P "__init__" 623 (r 276),e P "__static_attributes__" 628 (r 277)] 5),
 et,
 fi #[(i 193 0),(i 4 0),(r 275)],
 co "Withdrawal" "Withdrawal" 603 191 0 0 0 0 266 false 267 .none .none .none 606 607,
 ⟨(.type "frame"),none,.plain,#[(some (r 268)),(some (r 3)),(some (r 265)),none,(some (s "gasledger.block" 547)),none,(some (r 0))]⟩,
 et,
 en,
 ts 616 ["self", "index", "validator", "address", "amount"],
 et,
 fn (f (M 46 0) "__init__" "Withdrawal.__init__" 0 [] .none .none .none .none none .none .none 0),
 co "__init__" "Withdrawal.__init__" 613 193 5 0 0 3 270 true 271 (r 272) (r 273) (r 274) 621 622,
 fo (f (M 46 0) "__init__" "Withdrawal.__init__" 3 [] .none .none .none (s "gasledger.block" 547) none (r 275) .none 0),
 ts 624 ["address", "amount", "index", "validator"],
 di (d [e P "__module__" 608 (s "gasledger.block" 547),e P "__firstlineno__" 612 (i 191 611),e P "__init__" 623 (r 276),e P "__static_attributes__" 628 (r 277),e P "__dict__" 630 (r 280),e P "__weakref__" 632 (r 281),e P "__doc__" 633 .none] 4),
 ⟨(.type "type"),none,(c "Withdrawal" [(.type "object")] [(r 279),(.type "object")] 278 "Withdrawal" true [] [] false none false),#[none,none,(some (s "Withdrawal" 601)),(some (s "Withdrawal" 609)),(some (.builtin "object.__new__")),(some (.bool true))]⟩,
 ⟨(.type "getset_descriptor"),none,(.fields #[(s "__dict__" 629),(r 279),(.builtin "function.__dict__"),(.builtin "function.__dict__#set")]),#[]⟩,
 ⟨(.type "getset_descriptor"),none,(.fields #[(s "__weakref__" 631),(r 279),(.builtin "ExceptionGroup.__weakref__"),.none]),#[]⟩,
 ⟨(.type "super"),none,(.fields #[(r 279),(r 279),(r 279)]),#[]⟩,
 ⟨(.type "builtin_function_or_method"),none,(.fields #[(.builtin "object.__init_subclass__"),(r 279)]),#[]⟩,
 et,
 en,
 fn (f (S 47) "need_form" "need_form" 0 [] .none .none .none .none none .none .none 0),
 co "need_form" "need_form" 636 198 1 0 0 3 284 true 285 .none .none (r 286) 639 640,
 fo (f (S 47) "need_form" "need_form" 3 [] .none .none .none (s "gasledger.block" 547) none (r 287) .none 0),
 et,
 en,
 ts 645 ["digest"],
 et,
 fn (f (S 48) "no_uncles" "no_uncles" 0 [] .none .none .none .none none .none .none 0),
 co "no_uncles" "no_uncles" 642 207 1 0 0 3 289 true 290 (r 291) (r 292) (r 293) 646 647,
 fo (f (S 48) "no_uncles" "no_uncles" 3 [] .none .none .none (s "gasledger.block" 547) none (r 294) .none 0),
 et,
 en,
 fn (f (S 49) "header_octets" "header_octets" 0 [] .none .none .none .none none .none .none 0),
 co "header_octets" "header_octets" 649 209 3 0 0 3 296 true 297 .none .none (r 298) 652 653,
 fo (f (S 49) "header_octets" "header_octets" 3 [] .none .none .none (s "gasledger.block" 547) none (r 299) .none 0),
 et,
 en,
 ts 658 ["header", "digest", "bits"],
 et,
 fn (f (S 50) "header_hash" "header_hash" 0 [] .none .none .none .none none .none .none 0),
 co "header_hash" "header_hash" 655 216 3 0 0 3 301 true 302 (r 303) (r 304) (r 305) 661 662,
 fo (f (S 50) "header_hash" "header_hash" 3 [] .none .none .none (s "gasledger.block" 547) none (r 306) .none 0),
 et,
 en,
 ts 667 ["item"],
 et,
 fn (f (S 51) "read_root" "read_root" 0 [] .none .none .none .none none .none .none 0),
 co "read_root" "read_root" 664 218 1 0 0 3 308 true 309 (r 310) (r 311) (r 312) 668 669,
 fo (f (S 51) "read_root" "read_root" 3 [] .none .none .none (s "gasledger.block" 547) none (r 313) .none 0),
 et,
 en,
 fn (f (S 52) "read_header" "read_header" 0 [] .none .none .none .none none .none .none 0),
 co "read_header" "read_header" 671 222 3 0 0 3 315 true 316 .none .none (r 317) 674 675,
 fo (f (S 52) "read_header" "read_header" 3 [] .none .none .none (s "gasledger.block" 547) none (r 318) .none 0)]
noncomputable def L503 (P:Params):List Obj:=upd [(3,di (d [e P "__name__" 165 (s "law_pq0408_01" 742),e P "__doc__" 166 .none,e P "__package__" 167 .none,e P "__loader__" 168 (.builtin "__main__.__loader__#opaque"),e P "__spec__" 169 .none,e P "__annotations__" 170 (r 6),e P "__builtins__" 171 (r 4),e P "__file__" 173 (s "/claim/cut.py" 172),e P "__cached__" 174 .none,e P "MachineFault" 217 (r 31),e P "RlpFault" 233 (r 44),e P "bloom_octets" 243 (r 53),e P "Log" 278 (r 70),e P "DEEPEST" 282 (i 60 281),e P "OCTETS_rlp" 284 (i 128 283),e P "LIST" 286 (i 192 285),e P "SHORT" 288 (i 55 287),e P "number_octets" 295 (r 81),e P "octets_number" 302 (r 88),e P "head" 311 (r 95),e P "encoded_at" 321 (r 102),e P "encoded" 328 (r 109),e P "read_size" 338 (r 116),e P "read_head" 351 (r 123),e P "read_item" 365 (r 130),e P "decoded" 374 (r 137),e P "WORD" 380 (i 115792089237316195423570985008687907853269984665640564039457584007913129639936 379),e P "ADDRESSES" 384 (i 1461501637330902918203684832716283019655932542976 383),e P "OCTETS_words" 386 (i 32 385),e P "led" 393 (r 144),e P "word_octets" 400 (r 151),e P "octets_word" 407 (r 158),e P "LONG" 413 (i 18446744073709551616 412),e P "read_number" 422 (r 165),e P "read_fixed" 430 (r 172),e P "MOST_TOPICS" 434 (i 4 433),e P "Receipt" 471 (r 189),e P "log_item" 477 (r 198),e P "receipt_octets" 483 (r 203),e P "read_log" 489 (r 208),e P "read_bloom" 497 (r 215),e P "read_receipt" 503 (r 220),e P "BlockInfo" 546 (r 237),e P "MOST_EXTRA" 550 (i 32 549),e P "NO_NONCE" 553 (.bytes #[0,0,0,0,0,0,0,0] 552),e P "Header" 600 (r 258),e P "Withdrawal" 635 (r 279),e P "need_form" 641 (r 288),e P "no_uncles" 648 (r 295),e P "header_octets" 654 (r 300),e P "header_hash" 663 (r 307),e P "read_root" 670 (r 314),e P "read_header" 676 (r 319),e P "withdrawal_octets" 685 (r 326),e P "LEAST_ADDRESS" 691 (i 605153021707326989568713251046585937826284568576 690),e P "SPREAD" 693 (i 281479271743489 692),e P "Numbered" 741 (r 357),e P "_law_short" 749 (r 368),e P "_law_wide" 755 (r 375),e P "_law_homes" 761 (r 382),e P "_law_sizes" 766 (r 383),e P "_law_names" 781 (r 384),e P "_law_draw" 790 (r 391),e P "_law_pick" 798 (r 398),e P "_law_seeded" 804 (r 403),e P "_law_receipt" 810 (r 408),e P "_law_head" 820 (r 415),e P "_law_made_receipt" 826 (r 420),e P "_law_made_head" 832 (r 425),e P "_law_figures" 841 (r 432),e P "_law_laid" 847 (r 437),e P "_law_receipt_octets" 853 (r 442),e P "_law_head_octets" 859 (r 447)] 73)),
 (12,fi #[(i 2 0),(i 0 0),(r 20),(i 7 0),(i 0 0),(r 40),(i 10 0),(i 0 0),(r 52),(i 15 0),(i 0 0),(r 59),(i 26 0),(i 0 0),(r 80),(i 30 0),(i 0 0),(r 87),(i 34 0),(i 0 0),(r 94),(i 39 0),(i 0 0),(r 101),(i 52 0),(i 0 0),(r 108),(i 54 0),(i 0 0),(r 115),(i 61 0),(i 0 0),(r 122),(i 77 0),(i 0 0),(r 129),(i 90 0),(i 0 0),(r 136),(i 99 0),(i 0 0),(r 143),(i 101 0),(i 0 0),(r 150),(i 103 0),(i 0 0),(r 157),(i 107 0),(i 0 0),(r 164),(i 116 0),(i 0 0),(r 171),(i 122 0),(i 0 0),(r 178),(i 130 0),(i 0 0),(r 197),(i 136 0),(i 0 0),(r 202),(i 143 0),(i 0 0),(r 207),(i 149 0),(i 0 0),(r 214),(i 153 0),(i 0 0),(r 219),(i 161 0),(i 0 0),(r 226),(i 174 0),(i 0 0),(r 247),(i 191 0),(i 0 0),(r 268),(i 198 0),(i 0 0),(r 287),(i 207 0),(i 0 0),(r 294),(i 209 0),(i 0 0),(r 299),(i 216 0),(i 0 0),(r 306),(i 218 0),(i 0 0),(r 313),(i 222 0),(i 0 0),(r 318),(i 235 0),(i 0 0),(r 325),(i 246 0),(i 0 0),(r 332),(i 263 0),(i 0 0),(r 367),(i 265 0),(i 0 0),(r 374),(i 267 0),(i 0 0),(r 381),(i 271 0),(i 0 0),(r 390),(i 279 0),(i 0 0),(r 397),(i 281 0),(i 0 0),(r 402),(i 284 0),(i 0 0),(r 407),(i 293 0),(i 0 0),(r 414),(i 302 0),(i 0 0),(r 419),(i 305 0),(i 0 0),(r 424),(i 309 0),(i 0 0),(r 431),(i 315 0),(i 0 0),(r 436),(i 324 0),(i 0 0),(r 441),(i 331 0),(i 0 0),(r 446)])] (L371 P)++[et,
 en,
 ts 680 ["withdrawal", "number", "ahead"],
 et,
 fn (f (S 53) "withdrawal_octets" "withdrawal_octets" 0 [] .none .none .none .none none .none .none 0),
 co "withdrawal_octets" "withdrawal_octets" 677 235 1 0 0 3 320 true 321 (r 322) (r 323) (r 324) 683 684,
 fo (f (S 53) "withdrawal_octets" "withdrawal_octets" 3 [] .none .none .none (s "gasledger.block" 547) none (r 325) .none 0),
 et,
 ⟨(.type "builtin_function_or_method"),none,(.fields #[(.builtin "type.__prepare__"),(.type "type")]),#[]⟩,
 di (d [e P "__module__" 701 (s "gasledger.digests" 686),e P "__qualname__" 703 (s "Numbered" 702),e P "__firstlineno__" 705 (i 246 704),e P "__init__" 712 (r 340),e P "number" 721 (r 347),e P "of" 732 (r 354),e P "__static_attributes__" 734 (r 355)] 7),
 et,
 fi #[(i 248 0),(i 4 0),(r 339),(i 251 0),(i 4 0),(r 346),(i 257 0),(i 4 0),(r 353)],
 co "Numbered" "Numbered" 696 246 0 0 0 0 330 false 331 .none .none .none 699 700,
 ⟨(.type "frame"),none,.plain,#[(some (r 332)),(some (r 3)),(some (r 329)),none,(some (s "gasledger.digests" 686)),none,(some (r 0))]⟩,
 et,
 en,
 ts 709 ["self"],
 et,
 fn (f (M 57 0) "__init__" "Numbered.__init__" 0 [] .none .none .none .none none .none .none 0),
 co "__init__" "Numbered.__init__" 706 248 1 0 0 3 334 true 335 (r 336) (r 337) (r 338) 710 711,
 fo (f (M 57 0) "__init__" "Numbered.__init__" 3 [] .none .none .none (s "gasledger.digests" 686) none (r 339) .none 0),
 et,
 en,
 ts 716 ["self", "octets", "key"],
 et,
 fn (f (M 57 1) "number" "Numbered.number" 0 [] .none .none .none .none none .none .none 0),
 co "number" "Numbered.number" 713 251 2 0 0 3 341 true 342 (r 343) (r 344) (r 345) 719 720,
 fo (f (M 57 1) "number" "Numbered.number" 3 [] .none .none .none (s "gasledger.digests" 686) none (r 346) .none 0),
 et,
 en,
 ts 725 ["self", "octets", "number", "first", "middle"],
 et,
 fn (f (M 57 2) "of" "Numbered.of" 0 [] .none .none .none .none none .none .none 0),
 co "of" "Numbered.of" 722 257 2 0 0 3 348 true 349 (r 350) (r 351) (r 352) 730 731,
 fo (f (M 57 2) "of" "Numbered.of" 3 [] .none .none .none (s "gasledger.digests" 686) none (r 353) .none 0),
 ts 733 ["known"],
 di (d [e P "__module__" 701 (s "gasledger.digests" 686),e P "__firstlineno__" 705 (i 246 704),e P "__init__" 712 (r 340),e P "number" 721 (r 347),e P "of" 732 (r 354),e P "__static_attributes__" 734 (r 355),e P "__dict__" 736 (r 358),e P "__weakref__" 738 (r 359),e P "__doc__" 739 .none] 4),
 ⟨(.type "type"),none,(c "Numbered" [(.type "object")] [(r 357),(.type "object")] 356 "Numbered" true [] [] false none false),#[none,none,(some (s "Numbered" 694)),(some (s "Numbered" 702)),(some (.builtin "object.__new__")),(some (.bool true))]⟩,
 ⟨(.type "getset_descriptor"),none,(.fields #[(s "__dict__" 735),(r 357),(.builtin "function.__dict__"),(.builtin "function.__dict__#set")]),#[]⟩,
 ⟨(.type "getset_descriptor"),none,(.fields #[(s "__weakref__" 737),(r 357),(.builtin "ExceptionGroup.__weakref__"),.none]),#[]⟩,
 ⟨(.type "super"),none,(.fields #[(r 357),(r 357),(r 357)]),#[]⟩,
 ⟨(.type "builtin_function_or_method"),none,(.fields #[(.builtin "object.__init_subclass__"),(r 357)]),#[]⟩,
 et,
 en,
 et,
 et,
 fn (f (S 59) "_law_short" "_law_short" 0 [] .none .none .none .none none .none .none 0),
 co "_law_short" "_law_short" 744 263 0 0 0 3 362 true 363 (r 364) (r 365) (r 366) 747 748,
 fo (f (S 59) "_law_short" "_law_short" 3 [] .none .none .none (s "law_pq0408_01" 742) none (r 367) .none 0),
 et,
 en,
 et,
 et,
 fn (f (S 60) "_law_wide" "_law_wide" 0 [] .none .none .none .none none .none .none 0),
 co "_law_wide" "_law_wide" 750 265 0 0 0 3 369 true 370 (r 371) (r 372) (r 373) 753 754,
 fo (f (S 60) "_law_wide" "_law_wide" 3 [] .none .none .none (s "law_pq0408_01" 742) none (r 374) .none 0),
 et,
 en,
 et,
 et,
 fn (f (S 61) "_law_homes" "_law_homes" 0 [] .none .none .none .none none .none .none 0),
 co "_law_homes" "_law_homes" 756 267 0 0 0 3 376 true 377 (r 378) (r 379) (r 380) 759 760,
 fo (f (S 61) "_law_homes" "_law_homes" 3 [] .none .none .none (s "law_pq0408_01" 742) none (r 381) .none 0),
 tu #[(i 0 762),(i 1 763),(i 55 764),(i 56 765)],
 ts 767 ["parent", "beneficiary", "state_root", "transactions_root", "receipts_root", "withdrawals_root", "bloom", "number", "limit", "used", "time", "extra", "random", "base_fee"],
 et,
 en,
 ts 785 ["well", "law_size", "given"],
 et,
 fn (f (S 64) "_law_draw" "_law_draw" 0 [] .none .none .none .none none .none .none 0),
 co "_law_draw" "_law_draw" 782 271 2 0 0 3 385 true 386 (r 387) (r 388) (r 389) 788 789,
 fo (f (S 64) "_law_draw" "_law_draw" 3 [] .none .none .none (s "law_pq0408_01" 742) none (r 390) .none 0),
 et,
 en,
 ts 794 ["well", "some"],
 et,
 fn (f (S 65) "_law_pick" "_law_pick" 0 [] .none .none .none .none none .none .none 0),
 co "_law_pick" "_law_pick" 791 279 2 0 0 3 392 true 393 (r 394) (r 395) (r 396) 796 797,
 fo (f (S 65) "_law_pick" "_law_pick" 3 [] .none .none .none (s "law_pq0408_01" 742) none (r 397) .none 0),
 et,
 en,
 fn (f (S 66) "_law_seeded" "_law_seeded" 0 [] .none .none .none .none none .none .none 0),
 co "_law_seeded" "_law_seeded" 799 281 2 0 0 3 399 true 400 .none .none (r 401) 802 803,
 fo (f (S 66) "_law_seeded" "_law_seeded" 3 [] .none .none .none (s "law_pq0408_01" 742) none (r 402) .none 0),
 et,
 en,
 fn (f (S 67) "_law_receipt" "_law_receipt" 0 [] .none .none .none .none none .none .none 0),
 co "_law_receipt" "_law_receipt" 805 284 2 0 0 3 404 true 405 .none .none (r 406) 808 809,
 fo (f (S 67) "_law_receipt" "_law_receipt" 3 [] .none .none .none (s "law_pq0408_01" 742) none (r 407) .none 0),
 et,
 en,
 ts 814 ["well", "law_bits", "law_found", "law_name"],
 et,
 fn (f (S 68) "_law_head" "_law_head" 0 [] .none .none .none .none none .none .none 0),
 co "_law_head" "_law_head" 811 293 2 0 0 3 409 true 410 (r 411) (r 412) (r 413) 818 819,
 fo (f (S 68) "_law_head" "_law_head" 3 [] .none .none .none (s "law_pq0408_01" 742) none (r 414) .none 0),
 et,
 en,
 fn (f (S 69) "_law_made_receipt" "_law_made_receipt" 0 [] .none .none .none .none none .none .none 0),
 co "_law_made_receipt" "_law_made_receipt" 821 302 1 0 0 3 416 true 417 .none .none (r 418) 824 825,
 fo (f (S 69) "_law_made_receipt" "_law_made_receipt" 3 [] .none .none .none (s "law_pq0408_01" 742) none (r 419) .none 0),
 et,
 en,
 fn (f (S 70) "_law_made_head" "_law_made_head" 0 [] .none .none .none .none none .none .none 0),
 co "_law_made_head" "_law_made_head" 827 305 1 0 0 3 421 true 422 .none .none (r 423) 830 831,
 fo (f (S 70) "_law_made_head" "_law_made_head" 3 [] .none .none .none (s "law_pq0408_01" 742) none (r 424) .none 0),
 et,
 en,
 ts 836 ["law_number", "law_many", "law_gained"],
 et,
 fn (f (S 71) "_law_figures" "_law_figures" 0 [] .none .none .none .none none .none .none 0),
 co "_law_figures" "_law_figures" 833 309 2 0 0 3 426 true 427 (r 428) (r 429) (r 430) 839 840,
 fo (f (S 71) "_law_figures" "_law_figures" 3 [] .none .none .none (s "law_pq0408_01" 742) none (r 431) .none 0),
 et,
 en,
 fn (f (S 72) "_law_laid" "_law_laid" 0 [] .none .none .none .none none .none .none 0),
 co "_law_laid" "_law_laid" 842 315 1 0 0 3 433 true 434 .none .none (r 435) 845 846,
 fo (f (S 72) "_law_laid" "_law_laid" 3 [] .none .none .none (s "law_pq0408_01" 742) none (r 436) .none 0),
 et,
 en,
 fn (f (S 73) "_law_receipt_octets" "_law_receipt_octets" 0 [] .none .none .none .none none .none .none 0),
 co "_law_receipt_octets" "_law_receipt_octets" 848 324 2 0 0 3 438 true 439 .none .none (r 440) 851 852,
 fo (f (S 73) "_law_receipt_octets" "_law_receipt_octets" 3 [] .none .none .none (s "law_pq0408_01" 742) none (r 441) .none 0),
 et,
 en,
 fn (f (S 74) "_law_head_octets" "_law_head_octets" 0 [] .none .none .none .none none .none .none 0),
 co "_law_head_octets" "_law_head_octets" 854 331 3 0 0 3 443 true 444 .none .none (r 445) 857 858,
 fo (f (S 74) "_law_head_octets" "_law_head_octets" 3 [] .none .none .none (s "law_pq0408_01" 742) none (r 446) .none 0)]
noncomputable def L595 (P:Params):List Obj:=upd [(3,di (d [e P "__name__" 165 (s "law_pq0408_01" 742),e P "__doc__" 166 .none,e P "__package__" 167 .none,e P "__loader__" 168 (.builtin "__main__.__loader__#opaque"),e P "__spec__" 169 .none,e P "__annotations__" 170 (r 6),e P "__builtins__" 171 (r 4),e P "__file__" 173 (s "/claim/cut.py" 172),e P "__cached__" 174 .none,e P "MachineFault" 217 (r 31),e P "RlpFault" 233 (r 44),e P "bloom_octets" 243 (r 53),e P "Log" 278 (r 70),e P "DEEPEST" 282 (i 60 281),e P "OCTETS_rlp" 284 (i 128 283),e P "LIST" 286 (i 192 285),e P "SHORT" 288 (i 55 287),e P "number_octets" 295 (r 81),e P "octets_number" 302 (r 88),e P "head" 311 (r 95),e P "encoded_at" 321 (r 102),e P "encoded" 328 (r 109),e P "read_size" 338 (r 116),e P "read_head" 351 (r 123),e P "read_item" 365 (r 130),e P "decoded" 374 (r 137),e P "WORD" 380 (i 115792089237316195423570985008687907853269984665640564039457584007913129639936 379),e P "ADDRESSES" 384 (i 1461501637330902918203684832716283019655932542976 383),e P "OCTETS_words" 386 (i 32 385),e P "led" 393 (r 144),e P "word_octets" 400 (r 151),e P "octets_word" 407 (r 158),e P "LONG" 413 (i 18446744073709551616 412),e P "read_number" 422 (r 165),e P "read_fixed" 430 (r 172),e P "MOST_TOPICS" 434 (i 4 433),e P "Receipt" 471 (r 189),e P "log_item" 477 (r 198),e P "receipt_octets" 483 (r 203),e P "read_log" 489 (r 208),e P "read_bloom" 497 (r 215),e P "read_receipt" 503 (r 220),e P "BlockInfo" 546 (r 237),e P "MOST_EXTRA" 550 (i 32 549),e P "NO_NONCE" 553 (.bytes #[0,0,0,0,0,0,0,0] 552),e P "Header" 600 (r 258),e P "Withdrawal" 635 (r 279),e P "need_form" 641 (r 288),e P "no_uncles" 648 (r 295),e P "header_octets" 654 (r 300),e P "header_hash" 663 (r 307),e P "read_root" 670 (r 314),e P "read_header" 676 (r 319),e P "withdrawal_octets" 685 (r 326),e P "LEAST_ADDRESS" 691 (i 605153021707326989568713251046585937826284568576 690),e P "SPREAD" 693 (i 281479271743489 692),e P "Numbered" 741 (r 357),e P "_law_short" 749 (r 368),e P "_law_wide" 755 (r 375),e P "_law_homes" 761 (r 382),e P "_law_sizes" 766 (r 383),e P "_law_names" 781 (r 384),e P "_law_draw" 790 (r 391),e P "_law_pick" 798 (r 398),e P "_law_seeded" 804 (r 403),e P "_law_receipt" 810 (r 408),e P "_law_head" 820 (r 415),e P "_law_made_receipt" 826 (r 420),e P "_law_made_head" 832 (r 425),e P "_law_figures" 841 (r 432),e P "_law_laid" 847 (r 437),e P "_law_receipt_octets" 853 (r 442),e P "_law_head_octets" 859 (r 447),e P "_law_number" 869 (r 454),e P "_law_fixed" 877 (r 461),e P "_law_item" 892 (r 468),e P "_law_list" 902 (r 475),e P "_law_heard_receipt" 908 (r 480),e P "_law_heard_head" 914 (r 485),e P "_law_told_receipt" 920 (r 490),e P "_law_told_head" 931 (r 497),e P "_law_bent" 941 (r 504),e P "_law_is_receipt_right" 954 (r 511),e P "_law_is_head_right" 970 (r 518),e P "_law_are_refused" 976 (r 523),e P "_law_is_withdrawal_right" 986 (r 530),e P "law" 992 (r 535)] 87)),
 (12,fi #[(i 2 0),(i 0 0),(r 20),(i 7 0),(i 0 0),(r 40),(i 10 0),(i 0 0),(r 52),(i 15 0),(i 0 0),(r 59),(i 26 0),(i 0 0),(r 80),(i 30 0),(i 0 0),(r 87),(i 34 0),(i 0 0),(r 94),(i 39 0),(i 0 0),(r 101),(i 52 0),(i 0 0),(r 108),(i 54 0),(i 0 0),(r 115),(i 61 0),(i 0 0),(r 122),(i 77 0),(i 0 0),(r 129),(i 90 0),(i 0 0),(r 136),(i 99 0),(i 0 0),(r 143),(i 101 0),(i 0 0),(r 150),(i 103 0),(i 0 0),(r 157),(i 107 0),(i 0 0),(r 164),(i 116 0),(i 0 0),(r 171),(i 122 0),(i 0 0),(r 178),(i 130 0),(i 0 0),(r 197),(i 136 0),(i 0 0),(r 202),(i 143 0),(i 0 0),(r 207),(i 149 0),(i 0 0),(r 214),(i 153 0),(i 0 0),(r 219),(i 161 0),(i 0 0),(r 226),(i 174 0),(i 0 0),(r 247),(i 191 0),(i 0 0),(r 268),(i 198 0),(i 0 0),(r 287),(i 207 0),(i 0 0),(r 294),(i 209 0),(i 0 0),(r 299),(i 216 0),(i 0 0),(r 306),(i 218 0),(i 0 0),(r 313),(i 222 0),(i 0 0),(r 318),(i 235 0),(i 0 0),(r 325),(i 246 0),(i 0 0),(r 332),(i 263 0),(i 0 0),(r 367),(i 265 0),(i 0 0),(r 374),(i 267 0),(i 0 0),(r 381),(i 271 0),(i 0 0),(r 390),(i 279 0),(i 0 0),(r 397),(i 281 0),(i 0 0),(r 402),(i 284 0),(i 0 0),(r 407),(i 293 0),(i 0 0),(r 414),(i 302 0),(i 0 0),(r 419),(i 305 0),(i 0 0),(r 424),(i 309 0),(i 0 0),(r 431),(i 315 0),(i 0 0),(r 436),(i 324 0),(i 0 0),(r 441),(i 331 0),(i 0 0),(r 446),(i 338 0),(i 0 0),(r 453),(i 345 0),(i 0 0),(r 460),(i 349 0),(i 0 0),(r 467),(i 377 0),(i 0 0),(r 474),(i 382 0),(i 0 0),(r 479),(i 399 0),(i 0 0),(r 484),(i 413 0),(i 0 0),(r 489),(i 420 0),(i 0 0),(r 496),(i 429 0),(i 0 0),(r 503),(i 442 0),(i 0 0),(r 510),(i 455 0),(i 0 0),(r 517),(i 469 0),(i 0 0),(r 522),(i 488 0),(i 0 0),(r 529),(i 500 0),(i 0 0),(r 534)])] (L503 P)++[et,
 en,
 ts 863 ["law_item", "law_bound", "law_number", "law_figure"],
 et,
 fn (f (S 75) "_law_number" "_law_number" 0 [] .none .none .none .none none .none .none 0),
 co "_law_number" "_law_number" 860 338 2 0 0 3 448 true 449 (r 450) (r 451) (r 452) 867 868,
 fo (f (S 75) "_law_number" "_law_number" 3 [] .none .none .none (s "law_pq0408_01" 742) none (r 453) .none 0),
 et,
 en,
 ts 873 ["law_item", "law_size"],
 et,
 fn (f (S 76) "_law_fixed" "_law_fixed" 0 [] .none .none .none .none none .none .none 0),
 co "_law_fixed" "_law_fixed" 870 345 2 0 0 3 455 true 456 (r 457) (r 458) (r 459) 875 876,
 fo (f (S 76) "_law_fixed" "_law_fixed" 3 [] .none .none .none (s "law_pq0408_01" 742) none (r 460) .none 0),
 et,
 en,
 ts 881 ["octets", "at", "law_first", "law_begin", "law_size", "law_told", "law_end", "is_bare", "law_gained"],
 et,
 fn (f (S 77) "_law_item" "_law_item" 0 [] .none .none .none .none none .none .none 0),
 co "_law_item" "_law_item" 878 349 2 0 0 3 462 true 463 (r 464) (r 465) (r 466) 890 891,
 fo (f (S 77) "_law_item" "_law_item" 3 [] .none .none .none (s "law_pq0408_01" 742) none (r 467) .none 0),
 et,
 en,
 ts 896 ["octets", "at", "law_many", "law_told"],
 et,
 fn (f (S 78) "_law_list" "_law_list" 0 [] .none .none .none .none none .none .none 0),
 co "_law_list" "_law_list" 893 377 3 0 0 3 469 true 470 (r 471) (r 472) (r 473) 900 901,
 fo (f (S 78) "_law_list" "_law_list" 3 [] .none .none .none (s "law_pq0408_01" 742) none (r 474) .none 0),
 et,
 en,
 fn (f (S 79) "_law_heard_receipt" "_law_heard_receipt" 0 [] .none .none .none .none none .none .none 0),
 co "_law_heard_receipt" "_law_heard_receipt" 903 382 2 0 0 3 476 true 477 .none .none (r 478) 906 907,
 fo (f (S 79) "_law_heard_receipt" "_law_heard_receipt" 3 [] .none .none .none (s "law_pq0408_01" 742) none (r 479) .none 0),
 et,
 en,
 fn (f (S 80) "_law_heard_head" "_law_heard_head" 0 [] .none .none .none .none none .none .none 0),
 co "_law_heard_head" "_law_heard_head" 909 399 3 0 0 3 481 true 482 .none .none (r 483) 912 913,
 fo (f (S 80) "_law_heard_head" "_law_heard_head" 3 [] .none .none .none (s "law_pq0408_01" 742) none (r 484) .none 0),
 et,
 en,
 fn (f (S 81) "_law_told_receipt" "_law_told_receipt" 0 [] .none .none .none .none none .none .none 0),
 co "_law_told_receipt" "_law_told_receipt" 915 413 2 0 0 3 486 true 487 .none .none (r 488) 918 919,
 fo (f (S 81) "_law_told_receipt" "_law_told_receipt" 3 [] .none .none .none (s "law_pq0408_01" 742) none (r 489) .none 0),
 et,
 en,
 ts 924 ["octets", "law_digest", "law_bits", "law_one", "law_found"],
 et,
 fn (f (S 82) "_law_told_head" "_law_told_head" 0 [] .none .none .none .none none .none .none 0),
 co "_law_told_head" "_law_told_head" 921 420 3 0 0 3 491 true 492 (r 493) (r 494) (r 495) 929 930,
 fo (f (S 82) "_law_told_head" "_law_told_head" 3 [] .none .none .none (s "law_pq0408_01" 742) none (r 496) .none 0),
 et,
 en,
 ts 935 ["well", "octets", "law_way", "at"],
 et,
 fn (f (S 83) "_law_bent" "_law_bent" 0 [] .none .none .none .none none .none .none 0),
 co "_law_bent" "_law_bent" 932 429 2 0 0 3 498 true 499 (r 500) (r 501) (r 502) 939 940,
 fo (f (S 83) "_law_bent" "_law_bent" 3 [] .none .none .none (s "law_pq0408_01" 742) none (r 503) .none 0),
 et,
 en,
 ts 945 ["well", "law_bits", "law_fields", "octets", "law_some", "law_due", "law_came"],
 et,
 fn (f (S 84) "_law_is_receipt_right" "_law_is_receipt_right" 0 [] .none .none .none .none none .none .none 0),
 co "_law_is_receipt_right" "_law_is_receipt_right" 942 442 2 0 0 3 505 true 506 (r 507) (r 508) (r 509) 952 953,
 fo (f (S 84) "_law_is_receipt_right" "_law_is_receipt_right" 3 [] .none .none .none (s "law_pq0408_01" 742) none (r 510) .none 0),
 et,
 en,
 ts 958 ["well", "law_bits", "law_digest", "law_fields", "law_uncles", "octets", "law_one", "law_some", "law_due", "law_came"],
 et,
 fn (f (S 85) "_law_is_head_right" "_law_is_head_right" 0 [] .none .none .none .none none .none .none 0),
 co "_law_is_head_right" "_law_is_head_right" 955 455 3 0 0 3 512 true 513 (r 514) (r 515) (r 516) 968 969,
 fo (f (S 85) "_law_is_head_right" "_law_is_head_right" 3 [] .none .none .none (s "law_pq0408_01" 742) none (r 517) .none 0),
 et,
 en,
 fn (f (S 86) "_law_are_refused" "_law_are_refused" 0 [] .none .none .none .none none .none .none 0),
 co "_law_are_refused" "_law_are_refused" 971 469 3 0 0 3 519 true 520 .none .none (r 521) 974 975,
 fo (f (S 86) "_law_are_refused" "_law_are_refused" 3 [] .none .none .none (s "law_pq0408_01" 742) none (r 522) .none 0),
 et,
 en,
 ts 980 ["well", "law_rows", "law_due", "law_other"],
 et,
 fn (f (S 87) "_law_is_withdrawal_right" "_law_is_withdrawal_right" 0 [] .none .none .none .none none .none .none 0),
 co "_law_is_withdrawal_right" "_law_is_withdrawal_right" 977 488 1 0 0 3 524 true 525 (r 526) (r 527) (r 528) 984 985,
 fo (f (S 87) "_law_is_withdrawal_right" "_law_is_withdrawal_right" 3 [] .none .none .none (s "law_pq0408_01" 742) none (r 529) .none 0),
 et,
 en,
 fn (f (S 88) "law" "law" 0 [] .none .none .none .none none .none .none 0),
 co "law" "law" 987 500 1 0 0 3 531 true 532 .none .none (r 533) 990 991,
 fo (f (S 88) "law" "law" 3 [] .none .none .none (s "law_pq0408_01" 742) none (r 534) .none 0)]
end Hd
noncomputable def p00:Pos:=⟨0,0,0,0⟩
noncomputable def sT (l:List Obj)(n k:Nat)(os:OsState):SharedT:={tree:=Hd.bt 12 l,n:=n,life:={},gens:=#[],drawn:={},toks:=k,os:=os}
noncomputable def pc (a n:Nat):List Stmt:=(bd.drop a).take n
noncomputable def seg (w:World)(n:Nat)(t:SharedT)(l:List Stmt)(p:Pos):Option (Flow×SharedT×Code×Pos):=segRunT treeTable pr w 11 (some (.ref 6)) 1 n t (piecesOf l ev cdE p [topFrame p00])
theorem seg1 (w:World)(os:OsState):seg w 893 (sT (Hd.L47 w.params) 15 187 os) (pc 0 16) p00=some (.next,sT (Hd.L144 w.params) 103 322 os,cdE,⟨39,0,51,45⟩):=by
 unfold seg
 rw [Fast.te10110043849684766642,Fast.te14364793385576792824]
 kernel_rfl
theorem seg2 (w:World)(os:OsState):seg w 776 (sT (Hd.L144 w.params) 103 322 os) (pc 16 25) ⟨39,0,51,45⟩=some (.next,sT (Hd.L266 w.params) 221 506 os,cdE,⟨160,0,160,8⟩):=by
 unfold seg
 rw [Fast.te10110043849684766642,Fast.te14364793385576792824]
 kernel_rfl
theorem seg3 (w:World)(os:OsState):seg w 915 (sT (Hd.L266 w.params) 221 506 os) (pc 41 12) ⟨160,0,160,8⟩=some (.next,sT (Hd.L371 w.params) 320 677 os,cdE,⟨222,0,234,93⟩):=by
 unfold seg
 rw [Fast.te10110043849684766642,Fast.te14364793385576792824]
 kernel_rfl
theorem seg4 (w:World)(os:OsState):seg w 792 (sT (Hd.L371 w.params) 320 677 os) (pc 53 22) ⟨222,0,234,93⟩=some (.next,sT (Hd.L503 w.params) 448 860 os,cdE,⟨331,0,337,107⟩):=by
 unfold seg
 rw [Fast.te10110043849684766642,Fast.te14364793385576792824]
 kernel_rfl
theorem seg5 (w:World)(os:OsState):seg w 433 (sT (Hd.L503 w.params) 448 860 os) (pc 75 14) ⟨331,0,337,107⟩=some (.next,sT (Hd.L595 w.params) 536 993 os,cdE,⟨500,0,505,57⟩):=by
 unfold seg
 rw [Fast.te10110043849684766642,Fast.te14364793385576792824]
 kernel_rfl
end
end MineH
end
section
open PySem PySem.W PyProof.Rows
set_option maxRecDepth 1000000
namespace MineH
noncomputable section
noncomputable def HL (l:List Obj):Heap:={objs:=l.toArray}
theorem pre_ok (w:World)(os:OsState):topGo treeTable pr w 11 (some (.ref 6)) 12 {heap:=boot_heap w.params,drawn:=boot_drawn,toks:=boot_toks,os:=os} (topStub pr) =
  some ({heap:=HL (Hd.L47 w.params),toks:=187,os:=os},{cur:=denote treeTable cdE,code:=cdE,pos:=p00,stack:=[topFrame p00]}):=by
 rw [Fast.te15667345088766844465,Fast.te14364793385576792824,Fast.te11892475500146522536]
 kernel_rfl
theorem blk_ok (w:World)(os:OsState):segRun treeTable pr w 11 (some (.ref 6)) 1 1 {heap:=HL (Hd.L47 w.params),toks:=187,os:=os} (blockOf bd ev cdE p00 [topFrame p00]) =
  some (.next,(sT (Hd.L47 w.params) 15 187 os).abs,cdE,p00):=by
 rw [Fast.te14374325043358763698,Fast.te14364793385576792824]
 kernel_rfl
theorem fin_ok (w:World)(os:OsState):topRun treeTable pr w 11 (some (.ref 6)) 2 (sT (Hd.L595 w.params) 536 993 os).abs {cur:=doneF Flow.next,code:=cdE,pos:=⟨500,0,505,57⟩,stack:=[topFrame p00]} =
  some {heap:=HL (Hd.L595 w.params),toks:=993,os:=os}:=by
 rw [Fast.te14082659384304107361,Fast.te14364793385576792824]
 kernel_rfl
theorem bd_ok:bd=pc 0 16++(pc 16 25++(pc 41 12++(pc 53 22++(pc 75 14++[])))):=by kernel_rfl
theorem run_ok (w:World)(os:OsState):topRun treeTable pr w 11 (some (.ref 6)) (12+(1+(893+(776+(915+(792+(433+2))))))) {heap:=boot_heap w.params,drawn:=boot_drawn,toks:=boot_toks,os:=os} (topStub pr) =
  some {heap:=HL (Hd.L595 w.params),toks:=993,os:=os}:=
 go_top (pre_ok w os) (piece_block (blk_ok w os) (by
  have h:=piece_app (segRun_of (seg1 w os)) (piece_app (segRun_of (seg2 w os)) (piece_app (segRun_of (seg3 w os)) (piece_app (segRun_of (seg4 w os)) (piece_app (rest:=[]) (segRun_of (seg5 w os)) (fin_ok w os)))))
  rw [←bd_ok] at h
  exact h))
noncomputable def isNm:Stmt→Bool
 |.Assign [.Name s _] _ _=>s==Str.ofString "__name__"
 |_=>false
noncomputable def vw:Program:={pr with main:={pr.main with body:=pr.main.body.filter fun s=>!isNm s}}
noncomputable def kAs:List Addr:=[2,3,15,22,24,25,27,28,29,30,31,32,35,42,43,44,47,49,50,52,53,61,63,64,66,67,68,69,70,71,72,75,77,78,80,81,82,84,85,87,88,89,91,92,94,95,96,98,99,101,102,103,105,106,108,109,110,112,113,115,116,117,119,120,122,123,124,126,127,129,130,131,133,134,136,137,138,140,141,143,144,145,147,148,150,151,152,154,155,157,158,159,161,162,164,165,166,168,169,171,172,180,182,183,185,186,187,188,189,190,191,194,197,198,199,202,203,204,207,208,209,211,212,214,215,216,219,220,228,230,231,233,234,235,236,237,238,239,249,251,252,254,255,256,257,258,259,260,270,272,273,275,276,277,278,279,280,281,284,287,288,289,291,292,294,295,296,299,300,301,303,304,306,307,308,310,311,313,314,315,318,319,320,322,323,325,326,334,336,337,339,340,341,343,344,346,347,348,350,351,353,354,355,356,357,358,359,362,364,365,367,368,369,371,372,374,375,376,378,379,381,382,383,384,385,387,388,390,391,392,394,395,397,398,399,402,403,404,407,408,409,411,412,414,415,416,419,420,421,424,425,426,428,429,431,432,433,436,437,438,441,442,443,446,447,448,450,451,453,454,455,457,458,460,461,462,464,465,467,468,469,471,472,474,475,476,479,480,481,484,485,486,489,490,491,493,494,496,497,498,500,501,503,504,505,507,508,510,511,512,514,515,517,518,519,522,523,524,526,527,529,530,531,534,535]
noncomputable def pick:List Addr→Nat→List Obj→Frag
 |_,_,[]=>[]
 | [],_,_=>[]
 |a::as,i,o::l=>@Bool.rec (fun ω=>Frag) (pick (a::as) (i+1) l) ((a,o)::pick as (i+1) l) (Nat.beq a i)
theorem pick_at:∀(l:List Obj) (as:List Addr) (i:Nat),∀p∈pick as i l,∃k,p.1=i+k∧l[k]? = some p.2
 | [],[],_,_,h | [],_::_,_,_,h=>nomatch h
 |_::_,[],_,_,h=>nomatch h
 |o::l,a::as,i,p,h=>by
  unfold pick at h
  cases e:Nat.beq a i with
  |true=>
   rw [e] at h
   rcases List.mem_cons.mp h with h |h
   ·exact ⟨0,by rw [h];exact Nat.eq_of_beq_eq_true e,by rw [h];rfl⟩
   ·obtain ⟨k,h1,h2⟩:=pick_at l as (i+1) p h
    exact ⟨k+1,h1.trans (Nat.succ_add i k),h2⟩
  |false=>
   rw [e] at h
   obtain ⟨k,h1,h2⟩:=pick_at l (a::as) (i+1) p h
   exact ⟨k+1,h1.trans (Nat.succ_add i k),h2⟩
@[irreducible] noncomputable def K (P:Params):Frag:=pick kAs 0 (Hd.L595 P)
theorem K_at (P:Params):∀p∈K P,∃k,p.1=0+k∧(Hd.L595 P)[k]? = some p.2:=by unfold K;exact pick_at _ _ _
theorem K_fst (P:Params):kAs=(K P).map (·.1):=by kernel_rfl
noncomputable def here (o:Obj):Bool:=match o with |⟨_,_,.freed,_⟩=>false |_=>true
theorem K_here (P:Params):((K P).all fun p=>here p.2)=true:=by kernel_rfl
theorem get_here {l:List Obj}{k:Nat}{o:Obj}(h:l[k]? = some o)(e:here o=true):(HL l).get? k=some o:=by
 show (match l.toArray[k]? with |some ⟨_,_,.freed,_⟩=>none |o=>o)=some o
 rw [List.getElem?_toArray,h]
 obtain ⟨c,d,x,sl⟩:=o
 cases x<;>first |rfl |cases e
noncomputable abbrev lvs:List (PySem.Str×WData):=[(Str.ofString "WORD",.int 115792089237316195423570985008687907853269984665640564039457584007913129639936),(Str.ofString "ADDRESSES",.int 1461501637330902918203684832716283019655932542976),(Str.ofString "LONG",.int 18446744073709551616),(Str.ofString "NO_NONCE",.bytes [0,0,0,0,0,0,0,0]),(Str.ofString "LEAST_ADDRESS",.int 605153021707326989568713251046585937826284568576)]
noncomputable abbrev los:List PySem.Str:=[Str.ofString "WORD",Str.ofString "ADDRESSES",Str.ofString "LONG",Str.ofString "NO_NONCE",Str.ofString "LEAST_ADDRESS"]
noncomputable abbrev hook:Hook:=kHook K kAs K_fst
noncomputable def Xt (s:Shared):Bool:=xlAt vw lvs s&&recOk PySem.Challenge.rw_pq0408_01.row.records s
theorem boot_ok:∀w:World,Option.map (fun s=>(s.heap,s.gens,s.drawn,s.toks)) (fencedOpening treeTable pr w 7720)=some (boot_heap w.params,#[],boot_drawn,boot_toks):=
 boot_open (by kernel_rfl) (by decide) (fun s=>by kernel_rfl)
theorem size_ok (w:World):((boot_heap w.params).isNs mainGlobals&&(#[]:Array GenState).size==0,(boot_heap w.params).objs.size,(boot_heap w.params).nsMap mainGlobals (Str.ofString "__annotations__"))=(true,11,some (.ref 6)):=by
 rw [Fast.te8920871248978507458]
 kernel_rfl
noncomputable def shF (P:Params)(os:OsState):Shared:={heap:=HL (Hd.L595 P),gens:=#[],drawn:={},toks:=993,os:=os}
theorem look1 (w:World)(os:OsState):(staticsOk (importedModules pr.main.body) (boot_heap w.params) (HL (Hd.L595 w.params))&&namesBound pr (HL (Hd.L595 w.params))&&gensDone (shF w.params os)&&laidKept (boot_heap w.params) (HL (Hd.L595 w.params)))=true:=by
 rw [Fast.te5923862056798008813]
 kernel_rfl
theorem hook_eq {K:Params→Frag}{as:List Addr}{e:∀P,as=(K P).map (·.1)}{s:Shared}{w:World}(h:as.map s.heap.get? = (K w.params).map fun p=>some p.2):(kHook K as e).obs s=(kHook K as e).val w:=h
theorem obs_eq {l:List Obj}{as:List Addr}{F:Frag}(h:as=F.map (·.1))(hp:∀p∈F,∃k,p.1=0+k∧l[k]? = some p.2)(hh:(F.all fun p=>here p.2)=true):as.map (HL l).get? = F.map fun p=>some p.2:=by
 rw [h,List.map_map]
 refine List.map_congr_left fun p hm=>?_
 obtain ⟨k,h1,h2⟩:=hp p hm
 show (HL l).get? p.1=_
 rw [h1,Nat.zero_add]
 exact get_here h2 (List.all_eq_true.mp hh p hm)
theorem look3 (w:World)(os:OsState):hook.obs (shF w.params os)=hook.val w:=
 hook_eq (obs_eq (K_fst w.params) (K_at w.params) (K_here w.params))
theorem lk0 (w:World)(os:OsState):seen ((recsOf vw).map (·.name)) (ownsOf vw) [] {(shF w.params os) with gens:=#[]}=expectedOf vw:=by
 rw [Fast.te5160383126252970620,Fast.te3399658132070893891,Fast.te5991557255702980513]
 kernel_rfl
theorem lk1 (w:World)(os:OsState):(HL (Hd.L595 w.params)).bltView=bltViewBooted:=by
 kernel_rfl
theorem lk2 (w:World)(os:OsState):((HL (Hd.L595 w.params)).keysOk (looseW vw los) ((recsOf vw).map (·.name)) ((litsOf vw).map (·.1)) ((clssOf vw (looseW vw los)).map (·.name))&&(HL (Hd.L595 w.params)).accountedOkI (importedModules pr.main.body)&&(HL (Hd.L595 w.params)).isNs mainGlobals&&(HL (Hd.L595 w.params)).isNs builtinsNs&&tablesOk vw (HL (Hd.L595 w.params))&&Xt (shF w.params os)&&(if true=true then (shF w.params os).gens.size==0 else !leftWithCleanup (shF w.params os).gens))=true:=by
 rw [Fast.te10880121769531294198,Fast.te821141287760084731,Fast.te3399658132070893891,Fast.te7409074990110511671,Fast.te13664370479719496447,Fast.te14722251495701143533,Fast.te5923862056798008813,Fast.te10994771534591457954]
 kernel_rfl
theorem lk3 (w:World)(os:OsState):tabsOk vw (shF w.params os)=true:=by
 rw [Fast.te479339242167458305]
 kernel_rfl
theorem lk4 (w:World)(os:OsState):pinSeenD vw (drecsOf vw) (shF w.params os)=pinGoodD (drecsOf vw):=by
 rw [Fast.te16090120013241838585,Fast.te3247288618530077131]
 kernel_rfl
theorem lk5 (w:World)(os:OsState):plainSeenE vw (looseW vw los) (shF w.params os)=plainGoodE vw (looseW vw los):=by
 rw [Fast.te2386780881361962483,Fast.te821141287760084731]
 kernel_rfl
theorem lk6 (w:World)(os:OsState):plainSeenD vw los (shF w.params os)=plainGoodD vw los:=by
 rw [Fast.te11698064438423848299]
 kernel_rfl
theorem lk7 (w:World)(os:OsState):wideSeen vw (shF w.params os)=wideGood vw:=by
 rw [Fast.te7317090234206586261]
 kernel_rfl
theorem lk8 (w:World)(os:OsState):clsSeenW vw los (shF w.params os)=clsGoodW vw los:=by
 rw [Fast.te7369524293546568484]
 kernel_rfl
theorem look2 (w:World)(os:OsState):openSeen vw los (importedModules pr.main.body) Xt true (shF w.params os)=openGood vw los:=
 looks_pair (lk0 w os) (looks_pair (lk1 w os) (looks_pair (lk2 w os) (looks_pair (lk3 w os) (looks_pair (lk4 w os) (looks_pair (lk5 w os) (looks_pair (lk6 w os) (looks_pair (lk7 w os) (lk8 w os))))))))
end
end MineH
end
section
open PySem PySem.W PyProof.Rows
set_option maxRecDepth 100000
namespace MineH
noncomputable section
theorem look4 (w:World):(fun os=>(staticsOk (importedModules pr.main.body) (boot_heap w.params) (HL (Hd.L595 w.params))&&namesBound pr (HL (Hd.L595 w.params))&&gensDone {heap:=HL (Hd.L595 w.params),gens:=#[],drawn:={},toks:=993,os:=os}&&laidKept (boot_heap w.params) (HL (Hd.L595 w.params)),
      openSeen vw los (importedModules pr.main.body) Xt true { heap := HL (Hd.L595 w.params), gens := #[], drawn := { }, toks := 993, os := os }, hook.obs { heap := HL (Hd.L595 w.params), gens := #[], drawn := { }, toks := 993, os := os })) =
  fun ω=>(true,openGood vw los,hook.val w):=funext fun os=>looks_pair (look1 w os) (looks_pair (look2 w os) (look3 w os))
theorem left_ok:LeftO pr vw los Xt hook.obs hook.val 7720:=
 @LeftO.of_pieces pr vw los Xt _ hook.obs hook.val 7720 true boot_heap (fun P=>HL (Hd.L595 P)) #[] #[] boot_drawn {} boot_toks 993 11 (some (.ref 6)) _ boot_ok size_ok run_ok (by decide) look4
noncomputable def dL:DefRec:=match defOf vw PySem.Challenge.rw_pq0408_01.row.name with |some p=>p.1 |none=>⟨default,default,default,default,default⟩
theorem said_ok:PySem.Challenge.rw_pq0408_01.wellSaid=true:=by rw [Fast.te9446332074065402090];kernel_rfl
theorem def_ok:defOf vw PySem.Challenge.rw_pq0408_01.row.name=some (dL,[]):=by kernel_rfl
theorem the_ok:PySem.Challenge.rw_pq0408_01.row.prog.theDef PySem.Challenge.rw_pq0408_01.row.name=some (dL.params,dL.body,dL.scope):=by kernel_rfl
theorem kw_ok:kwWritten? dL.params.kwonlyargs dL.params.kw_defaults=some []:=by kernel_rfl
theorem wr_ok:(!PySem.Challenge.rw_pq0408_01.row.writes||List.isEmpty PySem.Challenge.rw_pq0408_01.row.records)=true:=by kernel_rfl
theorem ch_ok':(chainsOk vw&&opensWell PySem.Challenge.rw_pq0408_01.row.prog&&(frees PySem.Challenge.rw_pq0408_01.row.toRowW&&PySem.Challenge.rw_pq0408_01.row.within.isEmpty))=true:=by kernel_rfl
theorem bare_ok:PySem.Challenge.rw_pq0408_01.row.prog.bare:=⟨by kernel_rfl,by kernel_rfl,by kernel_rfl,by kernel_rfl,by kernel_rfl,by kernel_rfl⟩
theorem prom_ok:PySem.Challenge.rw_pq0408_01.row.promised:=⟨[.list []],by kernel_rfl,by kernel_rfl⟩
theorem hd2 (walk:WalkO vw los (XL vw lvs) hook.says PySem.Challenge.rw_pq0408_01.row.toRowW dL [] fun f vs=>PySem.call f vs):PySem.Challenge.rw_pq0408_01.Holds:=
 holds_law said_ok fun said=>
  PySem.W.holds_open left_ok hook.of hook.keeps (fun s e=>xl_of s (Bool.and_eq_true_iff.mp e).left) XL.keeps def_ok the_ok kw_ok (fun s e=>recFacts_of (Bool.and_eq_true_iff.mp e).right) wr_ok said ch_ok' bare_ok prom_ok walk
end
end MineH
end
section
open PySem PySem.W PySem.Calls PyProof.Rows
set_option maxRecDepth 100000
open MineH
namespace Internal
noncomputable abbrev theCx (w:World)(h:Heap)(mg mb:PySem.Str→Option Value):Cx:=⟨PySem.Challenge.rw_pq0408_01.row.prog,w,h,K w.params,vw,looseW vw los,mg,mb⟩
noncomputable def gloW (q:Option (Option Value))(v:V):Value:=match v with
 |.int b=>.int b (match q with |some (some (.int _ t))=>t |_=>0)
 |.ref a=>.ref a
 |.bool b=>.bool b
 |_=>.none
noncomputable def datV:WData→V
 |.int a=>.int a
 |.bytes a=>.bytes a
 |_=>.unb
noncomputable def irV:V→Bool
 |.int _=>true
 |.ref _=>true
 |_=>false
noncomputable def gloB (K:Frag)(p:String×V):Bool:=(irV p.2&&nsIn K mainGlobals (Str.ofString p.1)==some (some (gloW (nsIn K mainGlobals (Str.ofString p.1)) p.2)))||lvs.any fun q=>q.1==Str.ofString p.1&&vEq (datV q.2) p.2
noncomputable def ixe (K:Frag)(x:String)(a:Addr):Bool:=nsIn K mainGlobals (Str.ofString x)==some (some (.ref a))&&keepIn K (.ref a)
section
variable (P:Params)
theorem g_glo:(gloTab.all fun p=>gloB (K P) p)=true:=by kernel_rfl
theorem g_fn:((List.range 55).all fun f=>ixe (K P) (fnName f) (fnAddr f))=true:=by kernel_rfl
theorem g_cls:((List.range 6).all fun c=>ixe (K P) (clsName (c+2)) (clsAddr (c+2))&&(makesIn (K P) (clsAddr (c+2))&&
  (findIn (K P) (.ref (clsAddr (c+2))) "__init__" == some (some (.ref (initAddr (c+2))))&&typeIn (K P) (.ref (initAddr (c+2)))==some (.type "function"))))=true:=by kernel_rfl
theorem g_xcls:((List.range 2).all fun c=>ixe (K P) (clsName c) (clsAddr c)&&
  (findIn (K P) (.ref (clsAddr c)) "__init__" == some (some (.ref 28))&&(findIn (K P) (.ref (clsAddr c)) "__setattr__" == some (some (.builtin "object.__setattr__"))&&findIn (K P) (.ref (clsAddr c)) "word" == some none)))=true:=by kernel_rfl
theorem g_blt:((("Exception",.type "Exception")::bltTab).all fun p=>nsIn (K P) mainGlobals (Str.ofString p.1)==some none&&(bootBuiltins (Str.ofString p.1)==some p.2&&Str.ofString p.1 != "__name__"))=true:=by kernel_rfl
theorem g_xs:((List.range 2).all fun c=>(List.range 2).all fun c'=>mroIn (K P) (clsAddr c') (.ref (clsAddr c))==some (exSub c' c))=true:=by kernel_rfl
theorem g_excI:findCls (K P) (.type "Exception") (.type "type") "__init__" = some (.val (.builtin "Exception.__init__")):=by kernel_rfl
theorem g_fromB:findCls (K P) (.type "int") (.type "type") (PySem.Str.ofString "from_bytes")=some (.get (.builtin "classmethod_descriptor.__get__") (.builtin "int.from_bytes") .none (.type "int")):=by kernel_rfl
end
end Internal
end
section
open PySem PySem.W PySem.Calls PyProof.Rows
set_option maxRecDepth 100000
open MineH
namespace Internal
theorem lk_mem {α β:Type}[BEq α][LawfulBEq α]{k:α}{v:β}:∀{l:List (α×β)},l.lookup k=some v→(k,v)∈l
 | [],h=>nomatch h
 |(a,b)::r,h=>by
  rw [List.lookup_cons] at h
  cases e:k==a with
  |true=>rw [e] at h;cases h;rw [eq_of_beq e];exact .head _
  |false=>rw [e] at h;exact .tail _ (lk_mem h)
theorem attTab_has {C:Nat}{n:String}(h:attrOK C n=true):∃l,(C,l)∈attTab∧n∈l:=by
 unfold attrOK at h
 cases e:attTab.lookup C with
 |none=>rw [e] at h;cases h
 |some l=>rw [e] at h;exact ⟨l,lk_mem e,List.contains_iff_mem.mp h⟩
noncomputable def attB (K:Frag)(C:Addr)(n:PySem.Str):Bool:=findIn K (.ref C) "__setattr__" == some (some (.builtin "object.__setattr__"))&&(plainOver K C&&(takerIn K C n==some none&&(hasDictIn K C&&(plainGet K C n&&findIn K (.ref C) n==some none))))
theorem attB_of {K:Frag}{C:Addr}{n:PySem.Str}(h:attB K C n=true):SetOK K C n∧GetOK K C n:=
 have h2:=an2 h
 have h3:=an2 h2
 have h4:=an2 h3
 have h5:=an2 h4
 ⟨⟨eq_of_beq (an1 h),an1 h2,eq_of_beq (an1 h3),an1 h4⟩,an1 h5,an1 h4,eq_of_beq (an2 h5)⟩
section
variable (P:Params)
theorem g_att:(attTab.all fun p=>p.2.all fun n=>attB (K P) p.1 (Str.ofString n))=true:=by kernel_rfl
theorem g_m1:plainGet (K P) 357 "number" = true∧findIn (K P) (.ref 357) (Str.ofString "number")=some (some (.ref 347))∧isFn (K P) (.ref 347)=true∧keepIn (K P) (.ref 347)=true:=⟨by kernel_rfl,by kernel_rfl,by kernel_rfl,by kernel_rfl⟩
theorem g_m2:plainGet (K P) 357 "of" = true∧findIn (K P) (.ref 357) (Str.ofString "of")=some (some (.ref 354))∧isFn (K P) (.ref 354)=true∧keepIn (K P) (.ref 354)=true:=⟨by kernel_rfl,by kernel_rfl,by kernel_rfl,by kernel_rfl⟩
end
theorem xm3:XM [.type "Exception",.type "BaseException",.type "object"]:=⟨rfl,rfl,rfl,rfl,rfl,PySem.F.store_Exception.passes⟩
theorem xm4:XM [.ref 31,.type "Exception",.type "BaseException",.type "object"]:=⟨rfl,rfl,rfl,rfl,rfl,fun self=>by rw [refuseLoop_ref];exact PySem.F.store_Exception.passes self⟩
section
variable (P:Params)
noncomputable def mf (x:String)(t:Nat):Option Value:=some (.str (Str.ofString x) t)
theorem g_x31:(K P).lookup 31=some (xob ⟨Str.ofString "MachineFault",Str.ofString "MachineFault",30,[.type "Exception"],[.type "Exception",.type "BaseException",.type "object"],[],[.ref 44],none,some (.ref 15),none,mf "MachineFault" 189,mf "MachineFault" 197,some (.bool true)⟩ 31):=by kernel_rfl
theorem g_x44:(K P).lookup 44=some (xob ⟨Str.ofString "RlpFault",Str.ofString "RlpFault",43,[.ref 31],[.ref 31,.type "Exception",.type "BaseException",.type "object"],[],[],none,some (.ref 35),none,mf "RlpFault" 218,mf "RlpFault" 226,some (.bool true)⟩ 44):=by kernel_rfl
noncomputable def xfd:FuncData:=fdOf ((K P).lookup 28)
theorem g_28:(K P).lookup 28=some ⟨.type "function",none,.func (xfd P),#[]⟩:=by kernel_rfl
theorem xfB_of {w:World}{h:Heap}{mg mb:PySem.Str→Option Value}:XF (theCx w h mg mb):=
 ⟨_,xfd w.params,⟨5,8,5,17⟩,⟨5,8,5,26⟩,⟨5,27,5,31⟩,⟨5,33,5,37⟩,⟨5,8,5,38⟩,⟨5,8,5,38⟩,⟨6,8,6,12⟩,⟨6,8,6,17⟩,⟨6,20,6,24⟩,⟨6,8,6,24⟩,g_28 _,rfl,rfl,by kernel_rfl,rfl,by kernel_rfl,by kernel_rfl,by kernel_rfl,by kernel_rfl,by kernel_rfl,by kernel_rfl,
  fun a b=>by kernel_rfl,by kernel_rfl,by kernel_rfl,by kernel_rfl,fun x hx=>bne_iff_ne.mp (List.all_eq_true.mp (show ((xfd w.params).scope.names.all fun x=>x.2 != .cell)=true by kernel_rfl) x hx)⟩
end
end Internal
end
section
open PySem PySem.W PySem.Calls PyProof.Rows
set_option maxRecDepth 100000
open MineH
namespace Internal
section
variable {w:World}{h:Heap}{mg mb:PySem.Str→Option Value}
theorem lit_dat {u:Value}{d:WData}(r:ReadsLit h u d []):datV d=.unb∨VR u (datV d):=by
 cases r
 case int=>exact .inr (.int _ _)
 case bytes=>exact .inr (VR.bytesL _ _)
 all_goals exact .inl rfl
theorem gloW_ok (q:Option (Option Value)):∀v:V,irV v=true→VR (gloW q v) v
 |.int b,_=>.int b _
 |.ref a,_=>.ref a
theorem vEq_unb:∀{v:V} {p:Prop},vEq .unb v=true→p
 |.unb,_,h |.none,_,h |.bool _,_,h |.int _,_,h |.bytes _,_,h |.str _,_,h |.ref _,_,h=>nomatch h
theorem gloB_of {cx:Cx}{x:String}{v:V}(G:Good cx)(L:LooseAre lvs cx.mg h)(e:gloB cx.K (x,v)=true):∃u,GV cx x u∧VR u v:=
 (Bool.or_eq_true_iff.mp e).elim (fun e=>⟨_,.inl (mg_of G.K G.T.g (eq_of_beq (an2 e))),gloW_ok _ _ (an1 e)⟩) fun e=>
  (List.any_eq_true.mp e).elim fun p e=>(L.val p e.1).elim fun u a=>(lit_dat a.2).elim (fun z=>by rw [z] at e;exact vEq_unb (an2 e.2)) fun z=>⟨u,.inl ((congrArg cx.mg (eq_of_beq (an1 e.2))).symm.trans a.1),(show datV p.2=v from vEq_of (an2 e.2))▸z⟩
theorem ix_of {cx:Cx}(G:Good cx){x:String}{a:Addr}(e:ixe cx.K x a=true):GV cx x (.ref a)∧keepIn cx.K (.ref a)=true:=⟨.inl (mg_of G.K G.T.g (eq_of_beq (an1 e))),an2 e⟩
theorem good (KX:(K w.params).In h)(T:TopRead vw (looseW vw los) mg mb h):Good (theCx w h mg mb):=⟨KX,T,Nat.le_of_lt (Nat.lt_of_le_of_lt (by decide:4≤31) (Heap.lt_size (KX _ _ (g_x31 w.params))))⟩
theorem blt_ok {cx:Cx}(G:Good cx){p:String×Value}(e:(nsIn cx.K mainGlobals (Str.ofString p.1)==some none&&(bootBuiltins (Str.ofString p.1)==some p.2&&Str.ofString p.1 != "__name__"))=true):GV cx p.1 p.2:=
 .inr ⟨mg_none_of G.K G.T.g (eq_of_beq (an1 e)),(G.T.builtins _ (bne_iff_ne.mp (an2 (an2 e)))).trans (eq_of_beq (an1 (an2 e)))⟩
theorem xobj (P:Params):∀c,c≤1→∃x,(K P).lookup (clsAddr c)=some (xob x (clsAddr c))∧XM x.bm
 |0,_=>⟨_,g_x31 P,xm3⟩
 |1,_=>⟨_,g_x44 P,xm4⟩
 |n+2,h=>absurd h (Nat.not_le_of_lt (Nat.succ_lt_succ (Nat.succ_pos n)))
theorem r_all {n:Nat}{f:Nat→Bool}(h:(List.range n).all f=true){c:Nat}(hc:c<n):f c=true:=List.all_eq_true.mp h c (List.mem_range.mpr hc)
theorem good2 (KX:(K w.params).In h)(T:TopRead vw (looseW vw los) mg mb h):Good2 (theCx w h mg mb):=
 {good KX T with att:=fun ω ω hn=>(attTab_has hn).elim fun ω z=>attB_of (List.all_eq_true.mp (List.all_eq_true.mp (g_att w.params) _ z.1) _ z.2)}
theorem cls_ok (G:Good (theCx w h mg mb)):∀c,2≤c∧c≤7→GV (theCx w h mg mb) (clsName c) (.ref (clsAddr c))∧keepIn (K w.params) (.ref (clsAddr c))=true∧makesIn (K w.params) (clsAddr c)=true∧
  findIn (K w.params) (.ref (clsAddr c)) "__init__" = some (some (.ref (initAddr c)))∧typeIn (K w.params) (.ref (initAddr c))=some (.type "function")
 |0,h=>nomatch h.1
 |1,h=>absurd h.1 (by decide)
 |c+2,h=>
  have e:=r_all (g_cls w.params) (Nat.lt_succ_of_le (Nat.le_of_succ_le_succ (Nat.le_of_succ_le_succ h.2)):c<6)
  have e2:=an2 e
  have e3:=an2 e2
  have g:=ix_of G (an1 e)
  ⟨g.1,g.2,an1 e2,eq_of_beq (an1 e3),eq_of_beq (an2 e3)⟩
theorem mth_ok:∀n f,methFn 357 n=some f→plainGet (K w.params) 357 (Str.ofString n)=true∧findIn (K w.params) (.ref 357) (Str.ofString n)=some (some (.ref (fnAddr f)))∧isFn (K w.params) (.ref (fnAddr f))=true∧keepIn (K w.params) (.ref (fnAddr f))=true:=fun n f hf=>by
 have hf:(if n == "number" then some 70 else if n == "of" then some 71 else none)=some f:=hf
 by_cases e:n = "number"
 ·subst e;cases hf;exact g_m1 _
 ·rw [if_neg (fun z=>e (eq_of_beq z))] at hf
  by_cases e:n = "of"
  ·subst e;cases hf;exact g_m2 _
  ·rw [if_neg (fun z=>e (eq_of_beq z))] at hf;cases hf
theorem good3 (KX:(K w.params).In h)(T:TopRead vw (looseW vw los) mg mb h)(V:LooseAre lvs mg h):Good3 (theCx w h mg mb):=
 {good2 KX T with
  glo:=fun ω ω hv=>gloB_of (good KX T) V (List.all_eq_true.mp (g_glo w.params) _ (lk_mem hv))
  blt:=fun ω ω hu=>blt_ok (good KX T) (List.all_eq_true.mp (g_blt w.params) _ (.tail _ hu))
  fnG:=fun ω hf=>ix_of (good KX T) (r_all (g_fn w.params) hf)
  clsG:=cls_ok (good KX T)
  mthG:=mth_ok
  fromB:=g_fromB w.params}
theorem pk_new (P:Params)(pr:Program)(rest:List Value):∀c,c≤1→peek (K P) ⟨pr,P⟩ (checkBuiltinCall "Exception.__new__" ⟨.ref (clsAddr c)::rest,[]⟩)=some ()
 |0,_=>by kernel_rfl
 |1,_=>by kernel_rfl
 |n+2,h=>absurd h (Nat.not_le_of_lt (Nat.succ_lt_succ (Nat.succ_pos n)))
theorem xc_ok (G:Good (theCx w h mg mb))(c:Nat)(hc:c≤1):XC (theCx w h mg mb) (clsAddr c)∧GV (theCx w h mg mb) (clsName c) (.ref (clsAddr c))∧keepIn (K w.params) (.ref (clsAddr c))=true:=
 have e:=r_all (g_xcls w.params) (Nat.lt_succ_of_le hc)
 have e2:=an2 e
 have e3:=an2 e2
 ⟨⟨xobj _ c hc,eq_of_beq (an1 e2),eq_of_beq (an1 e3),eq_of_beq (an2 e3),fun ω=>pk_new _ _ _ c hc⟩,ix_of G (an1 e)⟩
theorem good5 (KX:(K w.params).In h)(T:TopRead vw (looseW vw los) mg mb h)(V:LooseAre lvs mg h):Good5 (theCx w h mg mb):=
 {good3 KX T V with
  lim:=T.nolimit
  excG:=blt_ok (p:=("Exception",.type "Exception")) (good KX T) (List.all_eq_true.mp (g_blt w.params) _ (.head _))
  excI:=g_excI w.params
  xf:=xfB_of
  xc:=xc_ok (good KX T)
  xs:=fun ω ω h1 h2=>eq_of_beq (r_all (r_all (g_xs w.params) (Nat.lt_succ_of_le h1)) (Nat.lt_succ_of_le h2))}
end
end Internal
end
section
open PySem PySem.W PySem.Calls PyProof.Rows
set_option maxRecDepth 100000
open MineH
namespace Internal
section
variable (P:Params)
noncomputable abbrev fF (p:Nat×Fd):FuncData:=fdOf ((K P).lookup (fnAddr p.1))
noncomputable abbrev fI (p:Nat×Fd):FuncData:=fdOf ((K P).lookup (initAddr p.1))
theorem g_f1:codeL.map (fun p=>(K P).lookup (fnAddr p.1))=codeL.map fun p=>some (fnObj (fF P p)):=by kernel_rfl
theorem g_f2:codeL.map (fun p=>(fF P p).body)=codeL.map fun p=>.stmts (bodyL (fF P p)):=by kernel_rfl
theorem g_f3 (f:Nat→Value):codeL.map (fun p=>bindArgs (fF P p) ⟨(List.range p.2.np).map f,[]⟩)=codeL.map fun p=>pure (bindT p.2 f):=by kernel_rfl
theorem g_i1:initL.map (fun p=>(K P).lookup (initAddr p.1))=initL.map fun p=>some (fnObj (fI P p)):=by kernel_rfl
theorem g_i2:initL.map (fun p=>(fI P p).body)=initL.map fun p=>.stmts (bodyL (fI P p)):=by kernel_rfl
theorem g_i3 (f:Nat→Value):initL.map (fun p=>bindArgs (fI P p) ⟨(List.range p.2.np).map f,[]⟩)=initL.map fun p=>pure (bindT p.2 f):=by kernel_rfl
end
section
variable {w:World}{h:Heap}{mg mb:PySem.Str→Option Value}(G:Good5 (theCx w h mg mb)){ch:Ch}{N:Nat}(C:ChOK (theCx w h mg mb) ch N)
noncomputable abbrev askF (h6:6≤N)(p:Nat×Fd):Bool:=fnOKb (K w.params) (fF w.params p) p.2&&(chkSs G C (.inl h6) (some ⟨h6⟩) ⟨p.2.nm,(fF w.params p).scope.names⟩ p.2.body (bodyL (fF w.params p))).isSome
noncomputable abbrev askI (hi:∀c as σ Q E,¬ch.i c as σ Q E)(p:Nat×Fd):Bool:=fnOKb (K w.params) (fI w.params p) p.2&&(chkSs G C (.inr hi) none ⟨p.2.nm,(fI w.params p).scope.names⟩ p.2.body (bodyL (fI w.params p))).isSome
theorem f_0 (h6:6≤N):((codeL.take 20).all (askF G C h6))=true:=by kernel_rfl
theorem f_1 (h6:6≤N):(((codeL.drop 20).take 20).all (askF G C h6))=true:=by kernel_rfl
theorem f_2 (h6:6≤N):(((codeL.drop 20).drop 20).all (askF G C h6))=true:=by kernel_rfl
theorem f_3 (hi:∀c as σ Q E,¬ch.i c as σ Q E):(initL.all (askI G C hi))=true:=by kernel_rfl
theorem all_cut {α:Type}{f:α→Bool}{l:List α}(n:Nat)(h:(l.take n).all f=true)(k:(l.drop n).all f=true):l.all f=true:=by
  rw [←List.take_append_drop n l,List.all_append,h,k];rfl
theorem f_all (h6:6≤N):codeL.all (askF G C h6)=true:=all_cut 20 (f_0 G C h6) (all_cut 20 (f_1 G C h6) (f_2 G C h6))
include G in
theorem tab:Tab (theCx w h mg mb) code:=
  ⟨fun f d hd=>
    have hm:=lk_mem (show codeL.lookup f=some d from hd)
    fnOK_of (map_eq (g_f1 w.params) _ hm) (map_eq (g_f2 w.params) _ hm) (fun f=>map_eq (g_f3 w.params f) _ hm) (an1 (List.all_eq_true.mp (f_all G (ch0_ok (N:=6)) (Nat.le_refl 6)) _ hm)) fun C h6=>((chkSs G C (.inl h6) (some ⟨h6⟩) _ _ _).get (an2 (List.all_eq_true.mp (f_all G C h6) _ hm))).down,
   fun c d hd=>
    have hm:=lk_mem (show initL.lookup c=some d from hd)
    fnOK_of (map_eq (g_i1 w.params) _ hm) (map_eq (g_i2 w.params) _ hm) (fun f=>map_eq (g_i3 w.params f) _ hm) (an1 (List.all_eq_true.mp (f_3 G (ch0_ok (N:=6)) fun ω ω ω ω ω q=>q) _ hm)) fun C hi=>((chkSs G C (.inr hi) none _ _ _).get (an2 (List.all_eq_true.mp (f_3 G C hi) _ hm))).down⟩
end
end Internal
end
section
open PySem PySem.W PySem.Calls PyProof.Rows
set_option maxRecDepth 100000
open MineH
namespace Internal
theorem g_383 (P:Params):(K P).lookup 383=some (Hd.tu #[Hd.i 0 762,Hd.i 1 763,Hd.i 55 764,Hd.i 56 765]):=by kernel_rfl
theorem g_384 (P:Params):(K P).lookup 384=some (Hd.ts 767 ["parent", "beneficiary", "state_root", "transactions_root", "receipts_root", "withdrawals_root", "bloom", "number", "limit", "used", "time", "extra", "random", "base_fee"]):=by kernel_rfl
theorem vrs_sls:∀(t:Nat) (l:List String),VRs (Hd.sls t l) (l.map V.str)
 |_,[]=>.nil
 |t,x::l=>.cons (.str x t) (vrs_sls (t+1) l)
theorem tup_in {K:Frag}{h:Heap}(x:K.In h){a:Addr}{vs:List Value}(e:K.lookup a=some (Hd.tu vs.toArray)):IsTup h a vs.toArray:=⟨_,x _ _ e,rfl,_,rfl⟩
theorem tup_ne {h:Heap}{a b:Addr}{i j:Array Value}(l:h.IsList a i)(t:IsTup h b j):a≠b:=fun z=>by
 subst z
 exact l.elim fun o p=>t.elim fun o' q=>absurd ((p.2.1.symm.trans (congrArg Obj.cls (Option.some.inj (p.1.symm.trans q.1)))).trans q.2.1) (by decide)
theorem entry_inv {cx:Cx}{h h₁:Heap}{a:Addr}{vs:List Value}{ns:List Int}{m:PySem.Str→Option Value}{L:Addr}{c3 c4:Array Value}(hb:cx.base=h)(hL:h.IsList a vs.toArray)(hI:VRs vs (ns.map V.int))(Fr1:Fr h L h₁ m)(e6:L=h.objs.size)
  (t3:IsTup h 383 c3)(t4:IsTup h 384 c4)(r3:VRs c3.toList sizesV)(r4:VRs c4.toList namesV):Inv cx [(L,m)] ([]++[]) (sto0 a ns) h₁:=by
 subst hb e6
 have st:=Fr1.keep
 have sto:∀b o,sto0 a ns b=some o→OR cx h₁ b o∧(∃x,cx.base.get? b=some x)∧o.lit=true:=fun b o hb=>by
  by_cases e3:b=383
  ·subst e3
   have hb:some (O.tup sizesV)=some o:=hb
   cases hb
   exact ⟨⟨c3,t3.elim fun o q=>⟨o,st _ _ q.1,q.2⟩,r3⟩,t3.elim fun o q=>⟨o,q.1⟩,rfl⟩
  unfold sto0 at hb
  rw [if_neg e3] at hb
  by_cases e4:b=384
  ·subst e4
   have hb:some (O.tup namesV)=some o:=hb
   cases hb
   exact ⟨⟨c4,t4.elim fun o q=>⟨o,st _ _ q.1,q.2⟩,r4⟩,t4.elim fun o q=>⟨o,q.1⟩,rfl⟩
  rw [if_neg e4] at hb
  by_cases ea:b=a
  ·subst ea
   rw [if_pos rfl] at hb
   cases hb
   exact ⟨⟨vs.toArray,hL.elim fun o q=>⟨o,st _ _ q.1,q.2⟩,hI,nofun⟩,hL.elim fun o q=>⟨o,q.1⟩,rfl⟩
  rw [if_neg ea] at hb
  cases hb
 exact {
  ne:=nofun
  stays:=st
  ns:=fun p hp=>by rw [List.mem_singleton.mp hp];exact ⟨Fr1.ns,Nat.le_refl _⟩
  nd:=List.nodup_cons.mpr ⟨nofun,List.nodup_nil⟩
  auxs:=fun q hq=>nomatch hq
  sto:=fun b o hb=>(sto b o hb).1
  sep:=fun b o hb=>⟨fun z=>(sto b o hb).2.1.elim fun x hx=>Nat.ne_of_lt (Heap.lt_size hx) (List.mem_singleton.mp z),(fun q hq=>nomatch hq),.inr (sto b o hb).2.2⟩}
theorem ints_vrs:∀{vs:List Value} {ns:List Int},IntsAre vs ns→VRs vs (ns.map V.int)
 |_,_,.nil=>.nil
 |_,_,.cons n t h=>.cons (.int _ _) (ints_vrs h)
theorem entry (HL:LAW){w:World}{s₁:Shared}{h₁:Heap}{mg mb:PySem.Str→Option Value}{m:PySem.Str→Option Value}{a:Addr}{vs:List Value}{ns:List Int}{env:Env}{body:List PySem.Stmt}{tk:Nat}
  {Qf:Flow→Shared→Prop}{Ef:Value→Shared→Prop}
  (KX:(K w.params).In s₁.heap)(T:TopRead vw (looseW vw los) mg mb s₁.heap)(V:LooseAre lvs mg s₁.heap)(hL:s₁.heap.IsList a vs.toArray)(hI:IntsAre vs ns)(hlen:ns.length≤63)
  (Fr1:Fr s₁.heap s₁.heap.objs.size h₁ m)(hm:m "script" = some (.ref a))(e1:env.scope.names=[(Str.ofString "script",.local),(Str.ofString "well",.local),(Str.ofString "law_digest",.local),(Str.ofString "law_bits",.local),
   (Str.ofString "Numbered",.globalImplicit),(Str.ofString "_law_draw",.globalImplicit),(Str.ofString "_law_is_receipt_right",.globalImplicit),(Str.ofString "_law_is_withdrawal_right",.globalImplicit),(Str.ofString "_law_is_head_right",.globalImplicit)])
  (e2:env.scope.kind=.function)(e3:env.globals=mainGlobals)(e4:env.builtins=builtinsNs)(e5:env.frame=some s₁.heap.objs.size)(e6:env.locals=s₁.heap.objs.size)(e7:env.cells=[])
  (hok:∀(G:Good5 (theCx w s₁.heap mg mb)) {ch N} (C:ChOK (theCx w s₁.heap mg mb) ch N) (h6:6≤N),(chkSs G C (.inl h6) (some ⟨h6⟩) ⟨c_law.nm,env.scope.names⟩ c_law.body body).isSome=true)
  (hQ:∀s',(∀b o,s₁.heap.get? b=some o→s'.heap.get? b=some o)→s'.os=s₁.os→s'.gens=s₁.gens→Qf (.ret (.bool true)) s') :
  wpAny (model PySem.Challenge.rw_pq0408_01.row.prog w) (callerA.deeper env) (execs body env) Qf Ef {s₁ with heap:=h₁,toks:=tk}:=by
 have G:=good5 (w:=w) KX T V
 have C:=ch_ok G (tab (w:=w) (h:=s₁.heap) (mg:=mg) (mb:=mb) G) 682
 have t3:=tup_in KX (g_383 _)
 have t4:=tup_in KX (g_384 _)
 have J:=entry_inv (cx:=theCx w s₁.heap mg mb) (h:=s₁.heap) (L:=env.locals) rfl hL (ints_vrs hI) (by rw [e6];exact Fr1) e6 t3 t4 (.cons (.int _ _) (.cons (.int _ _) (.cons (.int _ _) (.cons (.int _ _) .nil)))) (vrs_sls 767 _)
 have ko:∀y,env.kindOf y=env.scope.names.lookup y:=fun ω=>rfl
 have T0:At ⟨c_law.nm,env.scope.names⟩ (callerA.deeper env) 688 env [env] ((env.locals,m)::[]) ([]++[]) m [] [.ref a,.unb,.unb,.unb]:={
  names:=rfl
  kind:=e2
  glob:=e3
  blt:=e4
  frm:=⟨env,[],_,rfl,e5,e5⟩
  stk:=Around.frames_deeper rfl
  eo:=⟨fun en he=>by rw [List.mem_singleton.mp he];exact ⟨by rw [e2];decide,_,e5,by rw [e6];exact .head _⟩⟩
  ao:=⟨rfl,by show 1+claimMargin+1+688+10≤1000;decide,by show 4+3+3*688+300≤9900;decide⟩
  top:=⟨[],rfl⟩
  cas:=fun q hq=>nomatch hq
  loc:={
   len:=rfl
   nd:=by show ["script", "well", "law_digest", "law_bits"].Nodup;decide
   at_:=fun i x b hx hb=>by
    left
    match i,hx,hb with
    |0,hx,hb=>cases hx;cases hb;exact ⟨by rw [ko,e1];decide,.inr ⟨_,hm,.ref _⟩⟩
    |1,hx,hb=>cases hx;cases hb;exact ⟨by rw [ko,e1];decide,.inl rfl⟩
    |2,hx,hb=>cases hx;cases hb;exact ⟨by rw [ko,e1];decide,.inl rfl⟩
    |3,hx,hb=>cases hx;cases hb;exact ⟨by rw [ko,e1];decide,.inl rfl⟩
    |_+4,hx,_=>simp [c_law] at hx}}
 have S0:StA ⟨c_law.nm,env.scope.names⟩ (callerA.deeper env) 688 env [env] [] [] m [] [.ref a,.unb,.unb,.unb]:=⟨T0,.inl rfl,fun x y c h=>by rw [e7] at h;cases h⟩
 refine wpM (ss_ok (cx:=theCx w s₁.heap mg mb) (g:={s₁ with heap:=h₁,toks:=tk}) ((chkSs G C (.inl (by decide)) (some ⟨by decide⟩) _ _ _).get (hok G C (by decide))).down S0 SS.refl J (HL a ns hlen (tup_ne hL t3) (tup_ne hL t4))) (fun fl s' p=>?_) fun v s' p=>?_
 ·obtain ⟨m',ca',μ',σ',S',ss',J',q'⟩:=p
  cases fl with
  |next=>cases q'
  |cont=>cases q'
  |brk=>cases q'
  |ret v=>
   obtain ⟨b,rb,q'⟩:=q'
   cases q'
   have:=rb.bool';subst this
   exact hQ s' J'.stays ss'.2.2 ss'.1
 ·obtain ⟨_,_,_,_,_,_,_,_,_,_,_,h⟩:=p
  exact h.elim
end Internal
end
section
open PySem PySem.W PySem.Calls PyProof.Rows
open MineH
namespace Internal
theorem closeW {s₀ s₁ s':Shared}{args:List WData}(h:∀b o,s₁.heap.get? b=some o→s'.heap.get? b=some o)(ho:s'.os=s₁.os)(hg:s'.gens=#[]) :
  GoodW PySem.Challenge.rw_pq0408_01.row.claim (classAt s₀.heap) (ExcName.means s₀.heap) args s₁ (Except.ok (.ret (.bool true))) s':=
 ⟨.inl ⟨.bool true,.bool true,[],rfl,fun ω=>rfl,.bool ..,by kernel_rfl,fun ω=>⟨List.nodup_nil,fun ω h=>absurd h List.not_mem_nil⟩⟩,h,ho,hg⟩
set_option maxRecDepth 100000 in
set_option maxHeartbeats 8000000 in
theorem final (HL:LAW):PySem.Challenge.rw_pq0408_01.Holds:=hd2 (by
 intro w s₀ s₁ mg mb G Y fa o pm cd doc dV kV ho hd hcd hD hmg hg args vals as hpre hlay hrd hwl hlo
 have KX:=kIn_of Y
 have V:=(Ground.X G).2
 refine Ground.open G ?_
 intro T B D TE TW
 clear B D TE TW
 clear G Y
 clear hmg
 wrow_args hpre hlay hrd hwl hlo
 refine enter_call (codeAny_mono ?_ (fun ω ω g=>GoodW.toG g))
 w_call any ho hd hcd hD T F
 refine entry HL KX (topRead_of T) V (by assumption) (by assumption) (by omega) F rfl rfl rfl rfl rfl rfl rfl rfl (fun ω ω ω ω ω=>by kernel_rfl) (fun s' h1 h2 h3=>closeW h1 h2 (h3.trans hg)))
end Internal
end
theorem PySem.Challenge.cw_pq0408_01_holds : PySem.Challenge.rw_pq0408_01.Holds :=
  Internal.final Internal.law_ok
