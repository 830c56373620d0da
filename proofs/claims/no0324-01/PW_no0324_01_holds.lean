import PyProof.Rows.All
import Wide.All
import OpenK.AllK
import Wide.FinOn
import PySem.Challenge.RW_no0324_01
set_option genSizeOf false
set_option genSizeOfSpec false
set_option Elab.async false
set_option linter.all false
section
open PySem
namespace Mine
noncomputable abbrev ab:=@wpAny_bind
noncomputable abbrev ae:=@List.getElem?_set_ne
noncomputable abbrev af:=@Nat.le_trans
noncomputable abbrev ah:=@List.length_map
noncomputable abbrev ai:=@List.length_append
noncomputable abbrev aj:=@List.forall_mem_cons
noncomputable abbrev ak:=@Heap.get?_push_of_some
noncomputable abbrev an:=@List.mem_singleton
noncomputable abbrev ao:=@of_decide_eq_true
noncomputable abbrev aq:=@Option.some.inj
noncomputable abbrev au:=@List.getElem?_eq_getElem
noncomputable abbrev av:=@wpAny_pure
noncomputable abbrev ax:=@Option.isSome_iff_exists
noncomputable abbrev ay:=@Bool.and_eq_true_iff
noncomputable abbrev az:=@wpAny_mono
noncomputable abbrev aA:=@decide_eq_true
noncomputable abbrev aC:=@List.size_toArray
noncomputable abbrev aE:=@List.length_singleton
noncomputable abbrev aF:=@List.length_set
noncomputable abbrev aH:=@Eq.symm
noncomputable abbrev aJ:=@Nat.lt_of_le_of_lt
noncomputable abbrev aK:=@List.map_append
noncomputable abbrev aN:=@List.mem_append
noncomputable abbrev aP:=@Nat.le_add_right
noncomputable abbrev aQ:=@List.getD_eq_getElem?_getD
noncomputable abbrev aR:=@List.length_cons
noncomputable abbrev aT:=@List.mem_append_left
noncomputable abbrev aU:=@Nat.le_refl
noncomputable abbrev aV:=@List.mem_filter
noncomputable abbrev aW:=@Heap.get?_push_size
noncomputable abbrev aX:=@List.mem_map
noncomputable abbrev ba:=@List.getElem?_append_left
noncomputable abbrev bc:=@Nat.lt_of_lt_of_le
noncomputable abbrev bg:=@Nat.pos_iff_ne_zero
noncomputable abbrev Oy:=@Option.casesOn
noncomputable abbrev Oz:=@Bool.casesOn
noncomputable abbrev OA:=@List.casesOn
noncomputable abbrev OB:=@Nat.casesOn
end Mine
end
section
open PySem
set_option maxRecDepth 100000
set_option tactic.hygienic false
namespace Mine
inductive V where
 | none | bool (b:Bool) | int (i:Int) | str (s:Str)
 | tup (l:List V) | lst (l:List V) | rng (a b:Int)
 | own (k:Nat) | raw (v:Value)
 deriving Inhabited
inductive Cell where
 | lst (l:List V) | inst (C:Addr) (d:Nat) | attrs (fs:List (Str×V)) | sdct (fs:List (Str×V)) | idct (n:Nat) | dead
 deriving Inhabited
noncomputable abbrev aL:=List (Str×V)
noncomputable abbrev ag:=List Cell
noncomputable def lk {α:Type}(x:Str):List (Str×α)->Option α
 | []=>none
 | (y,v)::r=>if y=x then some v else lk x r
noncomputable def st {α:Type}(x:Str) (v:α):List (Str×α)->List (Str×α)
 | []=>[(x,v)]
 | (y,w)::r=>if y=x then (y,v)::r else (y,w)::st x v r
mutual
noncomputable def eH:V->PyData
 | .none=>.none
 | .bool b=>.bool b
 | .int i=>.int i
 | .str s=>.str s
 | .tup l=>.tuple (dD l)
 | .lst l=>.list (dD l)
 | _=>.dict []
noncomputable def dD:List V->List PyData
 | []=>[]
 | v::r=>eH v::dD r
end
mutual
noncomputable def c6:Nat->V->Bool
 | _,.none=>true
 | _,.bool _=>true
 | _,.int _=>true
 | _,.str s=>PyData.strOk s
 | n+1,.tup l=>cw n l
 | n+1,.lst l=>cw n l
 | _,_=>false
noncomputable def cw:Nat->List V->Bool
 | _,[]=>true
 | n,v::r=>c6 n v&&cw n r
end
noncomputable def eX:V->Bool
 | .raw _=>true
 | _=>false
noncomputable def bO (Z:ag):V->Option (List V)
 | .tup l=>some l
 | .lst l=>some l
 | .own k=>match Z[k]? with | some (.lst l)=>some l | _=>none
 | _=>none
noncomputable def rd (Z:ag):V->V
 | .own k=>match Z[k]? with | some (.lst l)=>.lst l | _=>.own k
 | v=>v
noncomputable def lim:Nat:=1000000
noncomputable def c7:List V->Option (List Int)
 | []=>some []
 | .int i::r=>(c7 r).map (i::·)
 | _::_=>none
noncomputable def cS:List V->Option (List (List Int))
 | []=>some []
 | .tup l::r=>(c7 l).bind fun a=>(cS r).map (a::·)
 | _::_=>none
noncomputable def cu:List Int->List Int->Bool
 | [],_=>true
 | _::_,[]=>false
 | a::r,b::t=>if a=b then cu r t else decide (a<b)
noncomputable def eY {α:Type}(le:α->α->Bool) (x:α):List α->List α
 | []=>[x]
 | y::r=>if le x y then x::y::r else y::eY le x r
noncomputable def cP {α:Type}(le:α->α->Bool):List α->List α
 | []=>[]
 | x::r=>eY le x (cP le r)
noncomputable def cy (i:Int) (n:Nat):Option Nat :=
 if 0<=i then (if i.toNat<n then some i.toNat else none) else if 0<=i+n then some (i+n).toNat else none
noncomputable def everyOther {α:Type}:List α->List α
 | []=>[]
 | [a]=>[a]
 | a::_::r=>a::everyOther r
noncomputable def ow (f:Int->Int->Option V):V->V->Option V
 | .int a,.int b=>f a b
 | _,_=>none
noncomputable def Di (Z:ag):List V->Option V
 | [v]=>(bO Z v).bind fun l=>if l.length<=lim then some (.int l.length) else none
 | _=>none
noncomputable def mF (f:Int->Int->V):List V->Option V
 | [a,b]=>ow (fun a b=>some (f a b)) a b
 | _=>none
noncomputable def zX:List V->Option V
 | [.lst l]=>if l.length<=lim then (c7 l).map fun a=>.int a.sum else none
 | _=>none
noncomputable def sx (l:List V):Option V:=(cS l).bind fun a=>if a.all (fun t=>!t.isEmpty) then some (.lst ((cP cu a).map fun t=>.tup (t.map .int))) else none
noncomputable def tT:List V->Option V
 | [.lst l]=>if l.length<64 then
   (match c7 l with
    | some a=>some (.lst ((cP (fun x y=>decide (x<=y)) a).map .int))
    | none=>sx l) else none
 | [.tup l]=>if l.length<64 then sx l else none
 | _=>none
noncomputable def tU:List V->Option V
 | [.lst [.bool b]]=>some (.str (if b then Str.ofString "[True]" else Str.ofString "[False]"))
 | _=>none
noncomputable def sw (Z:ag):List V->Option V
 | [v]=>(bO Z v).bind fun l=>if l.length<=lim then some (.tup l) else none
 | _=>none
noncomputable def tV (Z:ag):List V->Option V
 | [v]=>(match v with
  | .rng a b=>if a.natAbs<=lim/\b.natAbs<=lim then some (.lst ((List.range (b - a).toNat).map fun i:Nat=>V.int (a+(i:Int)))) else none
  | v=>(bO Z v).bind fun l=>if l.length<=lim then some (.lst l) else none)
 | _=>none
noncomputable def xX:List V->Option V
 | [v]=>(match v with | .int b=>some (.rng 0 b) | _=>none)
 | vs=>mF .rng vs
noncomputable def eG (Z:ag):Value->List V->Option V
 | .builtin i,vs=>if i= "len" then Di Z vs else if i= "max" then mF (fun a b=>.int (max a b)) vs else if i= "min" then mF (fun a b=>.int (min a b)) vs else
   if i= "sum" then zX vs else if i= "sorted" then tT vs else if i= "repr" then tU vs else none
 | .type i,vs=>if i= "tuple" then sw Z vs else if i= "list" then tV Z vs else if i= "range" then xX vs else none
 | _,_=>none
noncomputable def DU (a b:V):Option V:=match a with
 | .tup a=>(match b with | .tup b=>if a.length<=lim/\b.length<=lim then some (.tup (a++b)) else none | _=>none)
 | .lst a=>(match b with | .lst b=>if a.length<=lim/\b.length<=lim then some (.lst (a++b)) else none | _=>none)
 | a=>ow (fun a b=>some (.int (a+b))) a b
noncomputable def ft (op:Operator) (a b:V):Option V:=match op with
 | .Add=>DU a b
 | .Sub=>ow (fun a b=>some (.int (a - b))) a b
 | .Mult=>ow (fun a b=>if a.natAbs<=lim then some (.int (a*b)) else none) a b
 | .FloorDiv=>ow (fun a b=>if b=0\/lim<b.natAbs then none else some (.int (Int.fdiv a b))) a b
 | .Mod=>ow (fun a b=>if b=0 then none else some (.int (Int.fmod a b))) a b
 | .RShift=>ow (fun a b=>if 0<=b then some (.int (Int.fdiv a (2 ^ b.toNat))) else none) a b
 | .BitAnd=>ow (fun a b=>some (.int (Builtin.bitAnd a b))) a b
 | _=>none
noncomputable def u9 (a b:V):Option Bool:=if c6 16 a/\c6 16 b then some (PyData.eqv (eH a) (eH b)) else none
noncomputable def vi (x:V) (l:List V):Option Bool:=if c6 16 x/\cw 16 l then some (l.any fun y=>PyData.eqv (eH y) (eH x)) else none
noncomputable def wu (f:Int->Int->Bool):V->V->Option Bool
 | .int a,.int b=>some (f a b)
 | _,_=>none
noncomputable def Oc (a b:V):Option Bool:=match b with
 | .none=>(match a with | .none=>some true | .int _=>some false | .tup _=>some false | _=>none)
 | _=>none
noncomputable def mj (Z:ag) (op:CmpOp) (a b:V):Option Bool:=match op with
 | .Lt=>wu (fun a b=>decide (a<b)) a b
 | .LtE=>wu (fun a b=>decide (a<=b)) a b
 | .Gt=>wu (fun a b=>decide (b<a)) a b
 | .GtE=>wu (fun a b=>decide (b<=a)) a b
 | .Eq=>u9 (rd Z a) (rd Z b)
 | .NotEq=>(u9 (rd Z a) (rd Z b)).map (!·)
 | .Is=>Oc a b
 | .In=>(bO Z b).bind (vi a)
 | .NotIn=>((bO Z b).bind (vi a)).map (!·)
 | _=>none
noncomputable def items:V->Option (List V)
 | .tup l=>if l.length<=lim then some l else none
 | .lst l=>if l.length<=lim then some l else none
 | .rng a b=>if a.natAbs<=lim/\b.natAbs<=lim then some ((List.range (b - a).toNat).map fun i:Nat=>V.int (a+(i:Int))) else none
 | _=>none
noncomputable def names:List Expr->Option (List Str)
 | []=>some []
 | .Name x _::r=>(names r).map (x::·)
 | _::_=>none
noncomputable def cX:List Str->List V->aL->Option aL
 | [],[],ρ=>some ρ
 | x::xs,v::vs,ρ=>cX xs vs (st x v ρ)
 | _,_,_=>none
noncomputable def b6:Expr->V->aL->Option aL
 | .Name x _,v,ρ=>some (st x v ρ)
 | .Tuple es _ _,.tup l,ρ=>(names es).bind fun xs=>cX xs l ρ
 | _,_,_=>none
noncomputable def cz (f:V->ag->Option (List V×ag)):List V->ag->Option (List V×ag)
 | [],Z=>some ([],Z)
 | v::vs,Z=>(f v Z).bind fun (a,Z1)=>(cz f vs Z1).map fun (r,Z2)=>(a++r,Z2)
set_option genInjectivity false in
structure d8 where
 G:List (Str×V)
 mth:Addr->Str->Option Addr
 att:Addr->Str->Bool
 owned:Nat->Bool
 frz:Nat->List Str
 Φ:Addr->List V->ag->Option (V×ag)
noncomputable def iD (Z:ag):V->V×ag
 | .own k=>match Z[k]? with | some (.lst l)=>(.lst l,Z.set k .dead) | _=>(.own k,Z)
 | v=>(v,Z)
inductive DF where
 | fn (f:Addr) (self:V) | cell (k:Nat) | tree (l:List V)
noncomputable def gx (c:d8) (Z:ag) (m:Str):V->Option DF
 | .own k=>match Z[k]? with
  | some (.inst C d)=>(match Z[d]? with
   | some (.attrs fs)=>if (lk m fs).isNone then (c.mth C m).map fun f=>.fn f (.own k) else none
   | _=>none)
  | some (.lst _)=>some (.cell k)
  | _=>none
 | .lst l=>some (.tree l)
 | _=>none
noncomputable def cY (m:Str) (vs:List V) (Z:ag) (k:Nat) (l:List V):Option (V×ag) :=
 match vs with
 | []=>if m=Str.ofString "pop" then (l.getLast?).map fun x=>(x,Z.set k (.lst l.dropLast)) else none
 | [x]=>if m=Str.ofString "append" then some (.none,Z.set k (.lst (l++[x])))
  else if m=Str.ofString "extend" then (match x with
   | .rng a b=>(items (.rng a b)).map fun r=>(.none,Z.set k (.lst (l++r)))
   | x=>(bO Z x).bind fun r=>if r.length<=lim then some (.none,Z.set k (.lst (l++r))) else none)
  else none
 | _=>none
noncomputable def gu (c:d8) (m:Str) (vs:List V) (Z:ag):DF->Option (V×ag)
 | .fn f self=>c.Φ f (self::vs) Z
 | .cell k=>match Z[k]? with
  | some (.lst l)=>if l.length<=lim then cY m vs Z k l else none
  | _=>none
 | .tree l=>match vs with
  | [.int i]=>if m=Str.ofString "count" /\l.length<=lim then (c7 l).map fun a=>(.int (a.countP (·==i)),Z) else none
  | _=>none
variable (c:d8)
mutual
noncomputable def ev : Nat -> aL -> ag -> Expr -> Option (V × ag)
 | 0, _, _, _ => none
 | _ + 1, _, Z, .Constant .none _ _ => some (.none, Z)
 | _ + 1, _, Z, .Constant (.bool b) _ _ => some (.bool b, Z)
 | _ + 1, _, Z, .Constant (.int i) _ _ => some (.int i, Z)
 | _ + 1, _, Z, .Constant (.str s) _ _ => some (.str s, Z)
 | _ + 1, ρ, Z, .Name x _ => match lk x ρ with
  | some v => some (v, Z)
  | none => (lk x c.G).map (·, Z)
 | n + 1, ρ, Z, .Tuple es _ _ => (evs n ρ Z es).map fun (l, Z) => (.tup l, Z)
 | n + 1, ρ, Z, .List es pos => (evs n ρ Z es).map fun (l, Z) => if c.owned pos.line then (.own Z.length, Z ++ [.lst l]) else (.lst l, Z)
 | n + 1, ρ, Z, .Dict ks vs _ => (evk n ρ Z ks vs).bind fun (fs, Z) => if fs.length <= 15 /\ (fs.map (·.1)).Nodup then some (.own Z.length, Z ++ [if fs.isEmpty then .idct 0 else .sdct fs]) else none
 | n + 1, ρ, Z, .BinOp l op r _ => (ev n ρ Z l).bind fun (a, Z) => (ev n ρ Z r).bind fun (b, Z) => (ft op a b).map (·, Z)
 | n + 1, ρ, Z, .UnaryOp .Not x _ => (ev n ρ Z x).bind fun (a, Z) => match a with | .bool b => some (.bool (!b), Z) | _ => none
 | n + 1, ρ, Z, .UnaryOp .USub x _ => (ev n ρ Z x).bind fun (a, Z) => match a with | .int i => some (.int (-i), Z) | _ => none
 | n + 1, ρ, Z, .BoolOp op es _ => evb n ρ Z op es
 | n + 1, ρ, Z, .Compare l [op] [r] _ => (ev n ρ Z l).bind fun (a, Z) => (ev n ρ Z r).bind fun (b, Z) => (mj Z op a b).map fun t => (.bool t, Z)
 | n + 1, ρ, Z, .IfExp t a b _ => (ev n ρ Z t).bind fun (v, Z) => match v with | .bool true => ev n ρ Z a | .bool false => ev n ρ Z b | _ => none
 | n + 1, ρ, Z, .Attribute o x _ => (ev n ρ Z o).bind fun (v, Z) => match v with
  | .own k => (match Z[k]? with
   | some (.inst C d) => (match Z[d]? with
    | some (.attrs fs) => if c.att C x then (lk x fs).map (·, Z) else none
    | _ => none)
   | _ => none)
  | _ => none
 | n + 1, ρ, Z, .Subscript o (.Slice none u s _) pos => (ev n ρ Z o).bind fun (v, Z) => match u, s with
  | some u, none => (ev n ρ Z u).bind fun (w, Z) => match w with
   | .int i => (match rd Z v with
    | .tup l => if i = -1 /\ l.length <= lim /\ l.isEmpty = false then some (.tup l.dropLast, Z) else none
    | .lst l => if 0 <= i /\ l.length <= lim then (if c.owned pos.line then some (.own Z.length, Z ++ [.lst (l.take i.toNat)]) else some (.lst (l.take i.toNat), Z)) else none
    | _ => none)
   | _ => none
  | none, some (.Constant (.int 2) _ _) => (match v with
   | .lst l => if l.length <= lim then some (.lst (everyOther l), Z) else none
   | _ => none)
  | _, _ => none
 | n + 1, ρ, Z, .Subscript o i _ => (ev n ρ Z o).bind fun (v, Z) => (ev n ρ Z i).bind fun (w, Z) => match w with
  | .int j => (bO Z v).bind fun l => if l.length <= lim then (cy j l.length).bind fun k => (l[k]?).map (·, Z) else none
  | .str x => (match v with
   | .own k => (match Z[k]? with | some (.sdct fs) => (lk x fs).map (·, Z) | _ => none)
   | _ => none)
  | _ => none
 | n + 1, ρ, Z, .Call (.Attribute o m _) as [] _ => (ev n ρ Z o).bind fun (v, Z) => (gx c Z m v).bind fun t => (evs n ρ Z as).bind fun (vs, Z) => gu c m vs Z t
 | n + 1, ρ, Z, .Call (.Name f _) as [] _ => (ev n ρ Z (.Name f default)).bind fun (v, Z) => (evs n ρ Z as).bind fun (vs, Z) => match v with
  | .raw (.ref a) => c.Φ a vs Z
  | .raw b => (eG Z b vs).map (·, Z)
  | _ => none
 | n + 1, ρ, Z, .ListComp elt [⟨t, it, ifs, 0⟩] _ pos => (ev n ρ Z it).bind fun (v, Z) => (items v).bind fun l =>
   (cz (fun x Z => (b6 t x ρ).bind fun ρ' => (tI n ρ' Z ifs).bind fun (b, Z) => if b then (ev n ρ' Z elt).map fun (y, Z) => ([y], Z) else some ([], Z)) l Z).map
    fun (r, Z) => if c.owned pos.line then (.own Z.length, Z ++ [.lst r]) else (.lst r, Z)
 | n + 1, ρ, Z, .ListComp elt [⟨.Name x1 _, it, [], 0⟩, ⟨.Name x2 _, it2, [], 0⟩] _ _ => (ev n ρ Z it).bind fun (v, Z) => (items v).bind fun l => if (lk x2 ρ).isNone && x1 != x2 then
   (cz (fun x Z => (ev n (st x1 x ρ) Z it2).bind fun (v2, Z) => (items v2).bind fun l2 =>
    cz (fun y Z => (ev n (st x2 y (st x1 x ρ)) Z elt).map fun (z, Z) => ([z], Z)) l2 Z) l Z).bind fun (r, Z) => if r.length <= lim then some (.lst r, Z) else none else none
 | _, _, _, _ => none
noncomputable def evs : Nat -> aL -> ag -> List Expr -> Option (List V × ag)
 | 0, _, _, _ => none
 | _ + 1, _, Z, [] => some ([], Z)
 | n + 1, ρ, Z, e :: r => (ev n ρ Z e).bind fun (v, Z) => (evs n ρ Z r).map fun (l, Z) => (v :: l, Z)
noncomputable def evk : Nat -> aL -> ag -> List (Option Expr) -> List Expr -> Option (List (Str × V) × ag)
 | 0, _, _, _, _ => none
 | _ + 1, _, Z, [], [] => some ([], Z)
 | n + 1, ρ, Z, some (.Constant (.str x) _ _) :: ks, e :: r => (ev n ρ Z e).bind fun (v, Z) => (evk n ρ Z ks r).map fun (l, Z) => ((x, v) :: l, Z)
 | _ + 1, _, _, _, _ => none
noncomputable def evb : Nat -> aL -> ag -> BoolOp -> List Expr -> Option (V × ag)
 | 0, _, _, _, _ => none
 | n + 1, ρ, Z, _, [e] => (ev n ρ Z e).bind fun (v, Z) => match v with | .bool b => some (.bool b, Z) | _ => none
 | n + 1, ρ, Z, op, e :: r => (ev n ρ Z e).bind fun (v, Z) => match op, v with
  | .And, .bool true => evb n ρ Z .And r
  | .And, .bool false => some (.bool false, Z)
  | .Or, .bool false => evb n ρ Z .Or r
  | .Or, .bool true => some (.bool true, Z)
  | _, _ => none
 | _ + 1, _, _, _, _ => none
noncomputable def tI : Nat -> aL -> ag -> List Expr -> Option (Bool × ag)
 | 0, _, _, _ => none
 | _ + 1, _, Z, [] => some (true, Z)
 | n + 1, ρ, Z, e :: r => (ev n ρ Z e).bind fun (v, Z) => match v with | .bool true => tI n ρ Z r | .bool false => some (false, Z) | _ => none
end
inductive Fl where
 | next | ret (v:V)
 deriving Inhabited
noncomputable def pn (n:Nat) (ρ:aL) (Z:ag) (v:V):Expr->Option (aL×ag)
 | .Attribute o x _=>(ev c n ρ Z o).bind fun (w,Z)=>match w with
  | .own k=>(match Z[k]? with
   | some (.inst C d)=>(match Z[d]? with
    | some (.attrs fs)=>if c.att C x&&!eX v&&decide (fs.length<=400) then some (ρ,Z.set d (.attrs (st x v fs))) else none
    | _=>none)
   | _=>none)
  | _=>none
 | .Subscript o i _=>(ev c n ρ Z o).bind fun (w,Z)=>(ev c n ρ Z i).bind fun (j,Z)=>match w with
  | .own k=>(match Z[k]?,j with
   | some (.lst l),.int j=>if l.length<=lim then (cy j l.length).map fun q=>(ρ,Z.set k (.lst (l.set q v))) else none
   | some (.sdct fs),.str x=>if fs.length<=400 then some (ρ,Z.set k (.sdct (st x v fs))) else none
   | some (.idct q),.int _=>if q<=lim then some (ρ,Z.set k (.idct (q+1))) else none
   | _,_=>none)
  | _=>none
 | t=>(b6 t v ρ).map (·,Z)
noncomputable def l8 (ρ:aL) (Z:ag) (x:Str):aL×ag:=match lk x ρ with
 | some v=>(st x (iD Z v).1 ρ,(iD Z v).2)
 | none=>(ρ,Z)
noncomputable def fh (ρ:aL) (Z:ag):List Str->aL×ag
 | []=>(ρ,Z)
 | x::r=>fh (l8 ρ Z x).1 (l8 ρ Z x).2 r
noncomputable def iG:Expr->Option (Expr×Expr)
 | .Call (.Name f _) [a,b] [] _=>if f=Str.ofString "zip" then some (a,b) else none
 | _=>none
noncomputable def iR (f:V->aL->ag->Option (Fl×aL×ag)):List V->aL->ag->Option (Fl×aL×ag)
 | [],ρ,Z=>some (.next,ρ,Z)
 | v::vs,ρ,Z=>(f v ρ Z).bind fun (fl,ρ,Z)=>match fl with
  | .next=>iR f vs ρ Z
  | .ret w=>some (.ret w,ρ,Z)
mutual
noncomputable def ex:Nat->aL->ag->Stmt->Option (Fl×aL×ag)
 | 0,_,_,_=>none
 | n+1,ρ,Z,.Expr e _=>(ev c n ρ Z e).map fun (_,Z)=>(.next,ρ,Z)
 | n+1,ρ,Z,.Assign [t] e _=>(ev c n ρ Z e).bind fun (v,Z)=>(pn c n ρ Z v t).map fun (ρ,Z)=>(.next,ρ,Z)
 | n+1,ρ,Z,.Return (some e) _=>(ev c n ρ Z e).map fun (v,Z)=>(.ret v,ρ,Z)
 | _+1,ρ,Z,.Return none _=>some (.ret .none,ρ,Z)
 | n+1,ρ,Z,.If t b o _=>(ev c n ρ Z t).bind fun (v,Z)=>match v with | .bool true=>cB n ρ Z b | .bool false=>cB n ρ Z o | _=>none
 | n+1,ρ,Z,.For t it b [] _=>match iG it with
  | some (e1,e2)=>(ev c n ρ Z (.Name (Str.ofString "zip") default)).bind fun (f,Z)=>(ev c n ρ Z e1).bind fun (v1,Z)=>(ev c n ρ Z e2).bind fun (v2,Z)=>match f,v1,v2 with
   | .raw (.type "zip"),.tup l1,.lst l2=>if l1.length=l2.length then
     iR (fun x ρ Z=>(b6 t x ρ).bind fun ρ=>cB n ρ Z b) ((l1.zip l2).map fun p=>.tup [p.1,p.2]) ρ Z else none
   | _,_,_=>none
  | none=>(ev c n ρ Z it).bind fun (v,Z)=>(items v).bind fun l =>
   iR (fun x ρ Z=>(b6 t x ρ).bind fun ρ=>cB n ρ Z b) l ρ Z
 | n+1,ρ,Z,.While t b [] p=>(ev c n ρ Z t).bind fun (v,Z)=>match v with
  | .bool true=>(cB n ρ Z b).bind fun (fl,ρ,Z)=>(match fl with
   | .next=>ex n ρ Z (.While t b [] p)
   | .ret w=>some (.ret w,ρ,Z))
  | .bool false=>some (.next,ρ,Z)
  | _=>none
 | _,_,_,_=>none
noncomputable def cB:Nat->aL->ag->List Stmt->Option (Fl×aL×ag)
 | 0,_,_,_=>none
 | _+1,ρ,Z,[]=>some (.next,ρ,Z)
 | n+1,ρ,Z,s::r=>(ex n (fh ρ Z (c.frz s.pos.line)).1 (fh ρ Z (c.frz s.pos.line)).2 s).bind fun (fl,ρ,Z)=>match fl with
  | .next=>cB n ρ Z r
  | .ret w=>some (.ret w,ρ,Z)
end
noncomputable def top:List Stmt:=PySem.Challenge.pw_no0324_01.main.body
noncomputable def bd (i:Nat):List Stmt:=match top[i]? with | some (.FunctionDef _ _ b _ _ _ _ _ _ _)=>b | _=>[]
noncomputable def bm (i j:Nat):List Stmt:=match top[i]? with
 | some (.ClassDef _ _ _ b _ _ _ _ _ _ _)=>(match b[j]? with | some (.FunctionDef _ _ b _ _ _ _ _ _ _)=>b | _=>[])
 | _=>[]
noncomputable abbrev T (x:String):Str:=Str.ofString x
noncomputable def Ow:List (String×Addr):=[("put_behind",28),("from_values",35),("least",42),("greatest",49),("size",54),("next_from",61),("has_domains",68),("values",75),("up_to",80),("from_on",85),("without",92),("meet",99),("join",106),("negation",113),("struck",120),("said_of",127),("Store",277),("standing",330),("Count",375),("NumberOfValues",448),("_law_next",457),("_law_picked",462),("_law_tuples",467),("_law_is_met",474),("_law_means",479),("_law_boxes",484),("_law_within",491),("_law_domain_ahead",498),("_law_can_be",503),("_law_is_forced",508),("_law_clash_right",513),("_law_supported",518),("_law_asked",523),("_law_form_right",528)]
noncomputable def G0:List (Str×V):=(Ow.map fun (n,a)=>(Str.ofString n,V.raw (.ref a)))++(["len","max","min","sum","sorted","repr"].map fun n=>(Str.ofString n,V.raw (.builtin n)))++(["tuple","list","range","zip"].map fun n=>(Str.ofString n,V.raw (.type n)))
noncomputable def wF:List (Str×Addr):=[(T "new_var",148),(T "size",155),(T "dom",162),(T "low",176),(T "high",183),(T "has",190),(T "is_fixed",197),(T "value",204),(T "holds",218),(T "enter",225),(T "strike",232),(T "decide",239),(T "fail",246),(T "push",253),(T "pop",260)]
noncomputable def wG:List (Str×Addr):=[(T "propagate",353),(T "strike_once",358),(T "check",365),(T "told",372)]
noncomputable def Oe:List (Str×Addr):=[(T "propagate",400),(T "bound_below",405),(T "fixed_ones",412),(T "bound_above",419),(T "bar_values",424),(T "bar_all",431),(T "check",438),(T "told",445)]
noncomputable def rD (C:Addr) (x:Str):Option Addr:=if C=277 then lk x wF else if C=375 then lk x wG else if C=448 then lk x Oe else none
noncomputable def qN:List (Str×Unit):=[(T "domains",()),(T "firsts",()),(T "trail",()),(T "marks",()),(T "news",()),(T "speaker",()),(T "is_failed",()),(T "clash",())]
noncomputable def jF:List (Str×Unit):=[(T "number",()),(T "scope",()),(T "strength",()),(T "taken",()),(T "value",()),(T "n",())]
noncomputable def iX (C:Addr) (x:Str):Bool:=if C=277 then (lk x qN).isSome else if C=375 then (lk x jF).isSome else if C=448 then (lk x jF).isSome else false
noncomputable def oq (l:Nat):Bool:=[12,31,42,53,80,81,82,83,158,188,251,259,270,295,369,406,422].contains l
noncomputable def Mr (l:Nat):List Str:=if l=414 then [T "boxes"] else if l=374 then [T "left"] else []
noncomputable def fn:Addr->Option (List Str×List Stmt)
 | 28=>some ([T "found",T "low",T "high"],bd 2)
 | 35=>some ([T "numbers"],bd 3)
 | 42=>some ([T "d"],bd 4)
 | 49=>some ([T "d"],bd 5)
 | 54=>some ([T "d"],bd 6)
 | 61=>some ([T "d",T "v"],bd 7)
 | 68=>some ([T "d",T "v"],bd 8)
 | 75=>some ([T "d"],bd 10)
 | 80=>some ([T "d",T "k"],bd 11)
 | 85=>some ([T "d",T "k"],bd 12)
 | 92=>some ([T "d",T "v"],bd 13)
 | 99=>some ([T "d",T "e"],bd 14)
 | 106=>some ([T "d",T "e"],bd 15)
 | 113=>some ([T "literal"],bd 16)
 | 120=>some ([T "literal",T "d"],bd 17)
 | 127=>some ([T "literal",T "d"],bd 18)
 | 141=>some ([T "self"],bm 20 0)
 | 295=>some ([T "self",T "scope",T "strength"],bm 21 0)
 | 148=>some ([T "self",T "domain"],bm 20 1)
 | 155=>some ([T "self"],bm 20 2)
 | 162=>some ([T "self",T "x"],bm 20 3)
 | 176=>some ([T "self",T "x"],bm 20 5)
 | 183=>some ([T "self",T "x"],bm 20 6)
 | 190=>some ([T "self",T "x",T "v"],bm 20 7)
 | 197=>some ([T "self",T "x"],bm 20 8)
 | 204=>some ([T "self",T "x"],bm 20 9)
 | 218=>some ([T "self",T "literal"],bm 20 11)
 | 225=>some ([T "self",T "literal",T "reasons",T "speaker"],bm 20 12)
 | 232=>some ([T "self",T "literal",T "reasons"],bm 20 13)
 | 239=>some ([T "self",T "literal"],bm 20 14)
 | 246=>some ([T "self",T "reasons"],bm 20 15)
 | 253=>some ([T "self"],bm 20 16)
 | 260=>some ([T "self",T "n"],bm 20 17)
 | 330=>some ([T "x",T "domain"],bd 23)
 | 353=>some ([T "self",T "store"],bm 24 1)
 | 358=>some ([T "self",T "store"],bm 24 2)
 | 365=>some ([T "self",T "numbers"],bm 24 3)
 | 372=>some ([T "self"],bm 24 4)
 | 400=>some ([T "self",T "store"],bm 25 1)
 | 405=>some ([T "self",T "store"],bm 25 2)
 | 412=>some ([T "self",T "store"],bm 25 3)
 | 419=>some ([T "self",T "store"],bm 25 4)
 | 424=>some ([T "self",T "store"],bm 25 5)
 | 431=>some ([T "self",T "store",T "opened",T "known",T "are_old",T "reasons"],bm 25 6)
 | 438=>some ([T "self",T "numbers"],bm 25 7)
 | 445=>some ([T "self"],bm 25 8)
 | 457=>some ([T "feed",T "wide"],bd 27)
 | 462=>some ([T "mask",T "wide"],bd 28)
 | 467=>some ([T "boxes"],bd 29)
 | 474=>some ([T "literal",T "v"],bd 30)
 | 479=>some ([T "case",T "answer"],bd 31)
 | 484=>some ([T "store"],bd 32)
 | 491=>some ([T "answer",T "boxes"],bd 33)
 | 498=>some ([T "store",T "spot",T "x"],bd 34)
 | 503=>some ([T "case",T "literals",T "barred"],bd 35)
 | 508=>some ([T "store",T "case",T "spot"],bd 36)
 | 513=>some ([T "store",T "case"],bd 37)
 | 518=>some ([T "case",T "boxes",T "left"],bd 38)
 | 523=>some ([T "store",T "asker",T "case"],bd 39)
 | 528=>some ([T "asker",T "case",T "tuples"],bd 40)
 | 533=>some ([T "script"],bd 41)
 | _=>none
noncomputable def f9 (Z:ag) (b:Nat):V->V
 | .own k=>if b<=k then (match Z[k]? with | some (.lst l)=>.lst l | _=>.own k) else .own k
 | v=>v
noncomputable def gI (Z:ag) (b:Nat):V->V
 | .tup l=>.tup (l.map (f9 Z b))
 | v=>f9 Z b v
mutual
noncomputable def cO (n:Nat):V->Bool
 | .own k=>decide (k<n)
 | .tup l=>dA n l
 | .lst l=>dA n l
 | _=>true
noncomputable def dA (n:Nat):List V->Bool
 | []=>true
 | v::r=>cO n v&&dA n r
end
noncomputable def mN (n:Nat):Cell->Bool
 | .lst l=>dA n l
 | .inst _ d=>decide (d<n)
 | .attrs fs=>fs.all fun p=>cO n p.2
 | .sdct fs=>fs.all fun p=>cO n p.2
 | _=>true
noncomputable def jK:Fl->V
 | .ret v=>v
 | .next=>.none
noncomputable def cL (keep:Bool) (Z:ag):Option (Fl×aL×ag)->Option (V×ag)
 | some (fl,_,Z') =>
  if keep then some (jK fl,Z') else
  if (Z'.take Z.length).all (mN Z.length)&&cO Z.length (gI Z' Z.length (jK fl)) then some (gI Z' Z.length (jK fl),Z'.take Z.length) else none
 | none=>none
noncomputable def oj (Z:ag) (k:Nat) (x:Str) (v:V):Option ag:=match Z[k]? with
 | some (.attrs fs)=>if !eX v&&decide (fs.length<=400) then some (Z.set k (.attrs (st x v fs))) else none
 | _=>none
noncomputable def keeps (f:Addr):Bool:=f==260||f==141||f==295
noncomputable def bare (C:Addr) (Z:ag):ag:=Z++[.attrs [],.inst C Z.length]
noncomputable def ti:V×ag->Option ag
 | (.none,Z)=>some Z
 | _=>none
noncomputable def kr (k:Nat):List (Str×V)->ag->Option ag
 | [],Z=>some Z
 | (x,v)::r,Z=>(oj Z k x v).bind (kr k r)
noncomputable def lU (Z:ag) (C:Addr) (k:Nat):Bool:=match Z[k+1]? with
 | some (.inst C' k')=>C'==C&&k'==k
 | _=>false
noncomputable def gw (Φ:Addr->List V->ag->Option (V×ag)) (C:Addr) (kind:Str) (t:List V) (m:V) (l:List (Str×V)) (Z:ag):Option (V×ag) :=
 ((Φ 295 [.own (Z.length+1),.tup (t++[m]),.str kind] (bare C Z)).bind ti).bind fun Z1=>if lU Z1 C Z.length then (kr Z.length l Z1).map fun Z2=>(.own (Z.length+1),Z2) else none
noncomputable def cV:Nat->Addr->List V->ag->Option (V×ag)
 | 0,_,_,_=>none
 | n+1,f,vs,Z =>
  if f=277 then (match vs with | []=>((cV n 141 [.own (Z.length+1)] (bare 277 Z)).bind ti).map fun Z1=>(.own (Z.length+1),Z1) | _=>none)
  else if f=375 then (match vs with
   | [.tup t,v,m]=>if t.length<=lim then gw (cV n) 375 (T "values") t m [(T "taken",.tup t),(T "value",v),(T "n",m)] Z else none
   | _=>none)
  else if f=448 then (match vs with
   | [.tup t,m]=>if t.length<=lim then gw (cV n) 448 (T "weak") t m [(T "taken",.tup t),(T "n",m)] Z else none
   | _=>none)
  else match fn f with
   | some (ps,b)=>if ps.length=vs.length then cL (keeps f) Z (cB ⟨G0,rD,iX,oq,Mr,cV n⟩ 200 (ps.zip vs) Z b) else none
   | none=>none
noncomputable abbrev bD (n:Nat):d8:=⟨G0,rD,iX,oq,Mr,cV n⟩
noncomputable def Np (s:List Int):String:=match cV 12 533 [.lst (s.map .int)] [] with | some (.bool b,_)=>toString b | some _=> "odd" | none=> "none"
noncomputable def Oq (x:Nat):Nat:=(x*6364136223846793005+1442695040888963407) % 2^64
noncomputable def Ox (seed n:Nat):List Int:=((List.range n).foldl (fun (p:List Int×Nat) _=>let y:=Oq p.2;(Int.ofNat ((y / 2^20) % 100000)::p.1,y)) ([],seed)).1
end Mine
end
section
set_option maxRecDepth 100000
set_option tactic.hygienic false
namespace Mine
theorem ND {a:Int}{n:Nat}(h:a.natAbs<=n):a<=n:=Int.le_trans Int.le_natAbs (Int.ofNat_le.mpr h)
theorem NC {a:Int}{n:Nat}(h:a.natAbs<=n): -(n:Int)<=a:=by omega
theorem Oo {a:Int}{n:Nat}(h1: -(n:Int)<=a) (h2:a<=n):a.natAbs<=n:=by omega
theorem zl {a b:Nat}(h:0<a):0+a - 1 - b<a:=aJ (Nat.sub_le _ _) (bc (Nat.sub_lt (by rw [Nat.zero_add];exact h) Nat.one_pos) (Nat.le_of_eq (Nat.zero_add _)))
theorem lz {a b:Nat}(h:a<=1+(b - 1)) (k:1<a):a<=b:=by
 cases b with
 | zero=>exact absurd k (Nat.not_lt_of_le h)
 | succ b=>exact Nat.add_comm 1 b▸h
theorem tv {a b c:Nat}:a<=c/\c<b->((a+b) - 1) - c<b:=fun h=>Nat.sub_lt_left_of_lt_add (Nat.le_sub_of_add_le (af h.2 (Nat.le_add_left _ _))) (bc (Nat.sub_lt (bc (Nat.succ_pos c) (af h.2 (Nat.le_add_left b a))) Nat.one_pos) (Nat.add_le_add_right h.1 _))
theorem wK {a b c:Nat}:a<=c/\c<b->a<=((a+b) - 1) - c:=fun h=>Nat.le_sub_of_add_le (Nat.le_sub_of_add_le (Nat.add_le_add_left h.2 a))
theorem Ap {a c:Nat}{b:Int}:(a:Int)<=b/\b<=(a:Int)+(c:Int)->a<=Int.toNat b:=fun h=>Int.ofNat_le.mp (by rw [Int.toNat_of_nonneg (Int.le_trans (Int.natCast_nonneg _) h.1)];exact h.1)
theorem wJ {b c:Nat}{a:Int}:(b:Int)<=a/\a<=(b:Int)+(c:Int)->Int.toNat a<=b+c:=fun h=>Int.toNat_le.mpr (by rw [Int.natCast_add];exact h.2)
theorem wI {a b c:Nat}:b<=c->¬b<=a->(a+b) / 2<c:=fun h k=>Nat.div_lt_of_lt_mul (Nat.two_mul c▸Nat.add_lt_add_of_lt_of_le (bc (Nat.lt_of_not_le k) h) h)
theorem Ao {a b:Nat}:b<=a->a<=4->(0:Int)<=(a:Int) - (b:Int)/\(a:Int) - (b:Int)<(8:Int):=fun h k=>⟨Int.sub_nonneg_of_le (Int.ofNat_le.mpr h),Int.lt_of_le_of_lt (Int.sub_le_self _ (Int.natCast_nonneg _)) (Int.ofNat_lt.mpr (aJ k (by decide)))⟩
theorem An {c:Nat}{a b:Int}:Int.natAbs b<=c/\Int.natAbs a<=c->a - b<=(2:Int)*(c:Int):=fun h=>by have p:=ND h.2;have q:=NC h.1;clear h;omega
theorem jt {c:Nat}{a b:Int}:Int.natAbs b<=c/\Int.natAbs a<=c->Int.toNat (a - b)<=2*c:=fun h=>Int.toNat_le.mpr (An h)
theorem jJ {a:Nat}:a<=4->a<=1000:=fun h0=>af h0 (by decide)
theorem zg {a b c:Nat}:a<c->b=c->a<b:=fun h0 h1=>h1▸h0
theorem y6 {a b:Nat}:b<=4->a=b->a<=1000:=fun h0 h1=>af (Nat.le_of_eq h1) (af h0 (by decide))
theorem Bz {a:Nat}:a<=5->a<=1000:=fun h0=>af h0 (by decide)
theorem Bu {a b c:Nat}:a+(b+1)<=c->(a+1)+b<=c:=fun h0=>Nat.succ_add _ _▸h0
theorem DC {a:Nat}:a≠1/\a≠2/\a≠3/\a≠4/\a≠5/\a≠9/\a≠10/\a≠11/\a≠12/\a≠0->9≠a:=fun h0=>Ne.symm h0.2.2.2.2.2.1
theorem ER {a b c:Nat}:b=c+1->a<c->a<b:=fun h0 h1=>bc (Nat.lt_succ_of_lt h1) (Nat.le_of_eq h0.symm)
theorem EJ {a b:Nat}:b=a+1->a<b:=fun h0=>h0▸aU _
theorem Ex {a b c:Nat}:a+(c+1)<=b->a<b:=fun h0=>aJ (aP _ _) h0
theorem El {a b:Nat}:a<b->a+1<=b:=fun h0=>h0
theorem wL {a:Nat}:1<=a+1:=Nat.succ_pos _
theorem zf {a:Nat}:a<=4->(0:Int)<=(a:Int)/\(a:Int)<(8:Int):=fun h0=>⟨Int.natCast_nonneg _,Int.ofNat_lt.mpr (aJ h0 (by decide))⟩
theorem ze {a b c:Nat}:b=c->a<c->a<b:=fun h0 h1=>h0▸h1
theorem zd {a b:Nat}:¬b<a->a<=b:=fun h0=>Nat.le_of_not_lt h0
theorem zc {a:Nat}:a<=900->a<=1000:=fun h0=>af h0 (by decide)
theorem zb {a:Nat}:a<=10->a<=1000:=fun h0=>af h0 (by decide)
theorem za {a:Nat}:a≠1/\a≠2/\a≠3/\a≠4/\a≠5/\a≠9/\a≠10/\a≠11/\a≠12/\a≠0->10≠a:=fun h0=>Ne.symm h0.2.2.2.2.2.2.1
theorem y9 {a:Nat}:a≠1/\a≠2/\a≠3/\a≠4/\a≠5/\a≠9/\a≠10/\a≠11/\a≠12/\a≠0->11≠a:=fun h0=>Ne.symm h0.2.2.2.2.2.2.2.1
theorem y8 {a:Nat}:a≠1/\a≠2/\a≠3/\a≠4/\a≠5/\a≠9/\a≠10/\a≠11/\a≠12/\a≠0->0≠a:=fun h0=>Ne.symm h0.2.2.2.2.2.2.2.2.2
theorem y7 {a:Nat}:a<=a+(0+1):=Nat.le_succ _
theorem y5 {a b:Nat}:a<=b->a<=2*b:=fun h0=>af h0 (Nat.le_mul_of_pos_left _ (by decide))
theorem y4 {a b c d:Nat}:c<=d->d=1000000->b=16777216->a=c->a<=b:=by intros;lia
theorem BI {a b c d e:Nat}:c<d->b+d=e+c->a+e<=100->(a+1)+b<=100:=by intros;lia
theorem BH {a b:Nat}:a<=b->a<=b:=fun h0=>h0
theorem BG {a b:Nat}:b<a->a≠b:=fun h0=>Nat.ne_of_gt h0
theorem BF {a:Nat}:13<=a->13<=a+1:=fun h0=>Nat.le_succ_of_le h0
theorem BE {a b:Nat}:3=1\/3=3\/3=4\/3=5\/3=a\/3=b:=Or.inr (Or.inl rfl)
theorem BD {a b:Nat}:a+b<=100->a<=100:=fun h0=>af (aP _ _) h0
theorem BC {a:Nat}:a<=100->Int.natAbs (a:Int)<=1000000:=fun h0=>af h0 (by decide)
theorem BA {a b c d:Nat}:b<=4->c<=b->d<=c->a=d->a<=1000:=by intros;lia
theorem By {a:Nat}{b:Int}:(0:Int)<=b+(a:Int)->-(a:Int)<=b:=by intros;lia
theorem Bx {a b:Nat}:a<b+1->¬a<b->a=b:=fun h0 h1=>Nat.le_antisymm (Nat.le_of_lt_succ h0) (Nat.le_of_not_lt h1)
theorem Bw {a b c:Nat}:a+(c+1)<=b->a - 1<b:=fun h=>aJ (Nat.sub_le _ _) (bc (Nat.lt_succ_of_le (aP a c)) h)
theorem Bv {a:Nat}:0+1<=a+1:=Nat.succ_pos _
theorem Iz {a b c:Nat}:c<a/\a<=b->a - 1<b:=fun h=>bc (Nat.sub_lt (aJ (Nat.zero_le _) h.1) Nat.one_pos) h.2
theorem Io {a:Nat}:a<=900->a+1<=1000:=fun h0=>aJ h0 (by decide)
theorem Id {a:Nat}:a<a+1:=aU _
theorem HR {a b:Nat}:a<b->a<b:=fun h0=>h0
theorem HG {a:Nat}:a+0=a:=rfl
theorem Hu {b c:Nat}{a:Int}:(b:Int)<=a/\a<=(b:Int)+(c:Int)->(0:Int)<=a:=by intros;lia
theorem Hk {a:Nat}:a<=20->a<=1000:=fun h0=>af h0 (by decide)
theorem GW {a b:Nat}:a<=b->min a b=a:=by intros;lia
theorem GL {a:Nat}:a≠a+1:=by intros;lia
theorem NI {a b:Nat}:a<=b->a<=b+1:=fun h0=>Nat.le_succ_of_le h0
theorem Gu {a:Nat}:a<=63->a<=100:=fun h0=>af h0 (by decide)
theorem Gj {a b:Nat}:a+(b+1)<=63->a<=100:=fun h0=>af (aP _ _) (af h0 (by decide))
theorem FY {a b c:Nat}:c+(b+1)<=63->a<=c+1->a+b<=63:=by intros;lia
theorem NH {a b c d:Nat}:a<=d+c->d<=b+1->a<=b+(c+1):=by intros;lia
theorem FB {a b:Nat}:a+b<=100->a<=1000000:=fun h0=>af (aP _ _) (af h0 (by decide))
theorem Fq {a:Nat}:a<=1000->a<=1000000:=fun h0=>af h0 (by decide)
theorem Fe {a b:Nat}:5=1\/5=3\/5=4\/5=5\/5=a\/5=b:=Or.inr (Or.inr (Or.inr (Or.inl rfl)))
theorem E0 {a:Nat}:a<=4->a+1<=1000:=fun h0=>aJ h0 (by decide)
theorem ES {a:Nat}:13<=a->1≠a:=fun h0=>fun h=>absurd (h▸h0) (by decide)
theorem EQ {a:Nat}:a<=800->a<=900:=fun h0=>af h0 (by decide)
theorem EP {a:Nat}:a<=800->a<=1000:=fun h0=>af h0 (by decide)
theorem EO {a:Nat}:a<=800->a+1<=900:=fun h0=>aJ h0 (by decide)
theorem NG {a:Nat}:¬(a:Int)<(a:Int):=by intros;lia
theorem EN {a b c d:Nat}:a<=0->b<c->c+d<=b+a->False:=by intros;lia
theorem EM {a b c d e:Nat}:c<=b+1->d<e->e+a<=d+c->a<=b:=by intros;lia
theorem EL {a b:Nat}:b+a<=100->a<=100:=fun h0=>af (Nat.le_add_left _ _) h0
theorem NF {a b:Nat}:a<=b+1->a+1<=(b+1)+1:=fun h0=>Nat.succ_le_succ h0
theorem EK {a:Nat}:a<=4->a<=999999:=fun h0=>af h0 (by decide)
theorem EI {a:Nat}:a<=10->a+1<=1000000:=fun h0=>aJ h0 (by decide)
theorem EH {a b:Nat}:b<=10->a<=b->a<=1000:=fun h0 h1=>af (af h1 h0) (by decide)
theorem EG {a:Nat}:a<=40->a<=1000:=fun h0=>af h0 (by decide)
theorem EF {a:Nat}:1<=a/\a<=3->Int.natAbs (a:Int)<=1000000:=fun h=>af h.2 (by decide)
theorem ED {a b:Nat}:1<=b/\b<=3->a=b+1->a<=4:=by intros;lia
theorem EC {a:Nat}:a<4->(a:Int)<(8:Int):=by intros;lia
theorem EB {a b:Nat}:b<=4->a<=5*b->0+a<=100:=by intros;lia
theorem EA {a b c:Nat}:c<=b->a<=5*c->a<=b*5:=by intros;lia
theorem Ez {a b c:Nat}:b<=4->a+(c+1)=b->a+1<=4:=by intros;lia
theorem Ey {a:Nat}:a≠1/\a≠2/\a≠3/\a≠4/\a≠5/\a≠9/\a≠10/\a≠11/\a≠12/\a≠0->12≠a:=fun h0=>Ne.symm h0.2.2.2.2.2.2.2.2.1
theorem Ew {a b:Nat}:b≠1/\b≠2/\b≠3/\b≠4/\b≠5/\b≠9/\b≠10/\b≠11/\b≠12/\b≠0->a=9\/a=10\/a=11\/a=12->a≠b:=fun h k=>k.elim (fun e=>e▸fun q=>absurd q.symm h.2.2.2.2.2.1) fun k=>k.elim (fun e=>e▸fun q=>absurd q.symm h.2.2.2.2.2.2.1) fun k=>k.elim (fun e=>e▸fun q=>absurd q.symm h.2.2.2.2.2.2.2.1) (fun e=>e▸fun q=>absurd q.symm h.2.2.2.2.2.2.2.2.1)
theorem Ev {a b c:Nat}:b<c - a->a+b<c:=fun h=>Nat.add_lt_of_lt_sub' h
theorem Eu {a b:Nat}:a+(10*(b+1))<=900->(a+1)+(10*b)<=900:=by intros;lia
theorem Et {a b:Nat}:b<a->a - (b+1)<a - b:=fun h=>Nat.sub_succ_lt_self _ _ h
theorem Es {a b:Nat}:a<=b->¬a<b->a=b:=fun h0 h1=>Nat.le_antisymm h0 (Nat.le_of_not_lt h1)
theorem Er {a b c:Nat}:a<=c->c=1000000->b=16777216->a<=b:=by intros;lia
theorem Ep {a b:Nat}:a+(b+1)=(a+1)+b:=by intros;lia
theorem Eo {a b c:Nat}:c<=b->a=c->a<=b:=fun h0 h1=>h1▸h0
theorem En {a b c d e f:Nat}:d<=e->e=1000000->c=16777216->a=d->f<=e->b=f->a+b<=c+1:=fun h1 h2 h3 h4 h5 h6=>by subst h2 h3 h4 h6;exact af (Nat.add_le_add h1 h5) (by decide)
theorem Em {a:Nat}:a<29->a<30:=fun h0=>Nat.le_succ_of_le h0
theorem Ek {a b:Nat}:b<=400->a<=b+1->a<=500:=by intros;lia
theorem Ej {b:Nat}{a:Int}:Int.toNat (a+(b:Int))<b->a<(0:Int):=by intros;lia
theorem Ei {a b:Nat}:a<=b->b=1000000->a<=16777216:=by intros;lia
theorem Eh {a b c:Nat}:b=c->a=c->a=b:=fun h0 h1=>h0▸h1
theorem Eg {a:Int}:¬(0:Int)<=a->a<(0:Int):=fun h0=>Int.not_le.mp h0
theorem Ef {a:Nat}:(2*a)+1<=2*(a+1):=Nat.le_succ _
theorem Ee {a b:Nat}:b=1000000->a<=b->a<=16777216:=by intros;lia
theorem Ed {a b:Nat}:a<=b->¬a=b->a<=b - 1:=fun h k=>Nat.le_sub_of_add_le (Nat.lt_of_le_of_ne h k)
theorem Ec {a:Nat}:1<=a->a - 1<a:=fun h0=>Nat.sub_lt h0 (by decide)
theorem Eb {a b:Nat}:a<=b->b<1->a=b:=by intros;lia
theorem AH {a b:Nat}:a+1<=b->a<=b:=fun h0=>Nat.le_of_lt h0
theorem AG {a b c:Nat}:a<=(b+1)+c->a<=b+(c+1):=by intros;lia
theorem AF {a b:Nat}:(b+1) - (0+1)<=a->a<b+1->a=b:=by intros;lia
theorem AE {a b c:Nat}:a<=c->b=c->a<=b:=fun h0 h1=>h1▸h0
theorem AD {a b c:Nat}:a<=c->c<b->0<=a/\a<b:=fun h0 h1=>⟨Nat.zero_le _,aJ h0 h1⟩
theorem AB {a b:Nat}:a<b->0<=a/\a<b:=fun h0=>⟨Nat.zero_le _,h0⟩
theorem AA {a b c:Nat}:c<a->((0+a) - 1) - b<a:=fun h=>zl (aJ (Nat.zero_le _) h)
theorem Az {a b:Nat}:b+1<=a->1<=a:=fun h0=>af (Nat.le_add_left _ _) h0
theorem Ay {a b c:Nat}:c+1<=b->a<=(c+1)+(b - (c+1))->a<=b:=fun h k=>af k (Nat.le_of_eq (Nat.add_sub_cancel' h))
theorem Ax {a:Nat}:0<=a:=Nat.zero_le _
theorem Aw {a b c:Nat}:b=c->a<=1+(c - 1)->1<a->a<=b:=fun e h k=>e▸lz h k
theorem Av {a:Nat}:¬(0<=a/\a<a):=fun h=>Nat.lt_irrefl _ h.2
theorem Au {a b:Nat}:a - b<=a:=Nat.sub_le _ _
theorem At {a:Nat}:a<64->a<=16777216:=fun h0=>Nat.le_of_lt (bc h0 (by decide))
theorem As {a:Nat}:a<64->a<=16777216+1:=fun h0=>Nat.le_of_lt (bc h0 (by decide))
theorem Ar {a b:Nat}:b<64->a=b->a<=16777216:=by intros;lia
theorem Aq {a b:Nat}:b<64->a=b->a<64:=fun h0 h1=>h1▸h0
theorem Md {a:Int}:(0:Int)<=a/\a<(8:Int)->Int.toNat a<8:=fun h=>(Int.toNat_lt h.1).mpr h.2
theorem Mc {a:Int}:(0:Int)<=a/\a<(8:Int)->a=max a (0:Int):=fun h=>(Int.max_eq_left h.1).symm
theorem Mb {a b:Nat}:a<=a+b:=aP _ _
theorem Ma {a b c:Nat}:(a+b)+c=(c+b)+a:=by intros;lia
theorem L9 {a b c d e:Nat}:b+c=d+e->(a+b)+c=(a+d)+e:=by intros;lia
theorem L8 {a b:Nat}:0<a/\a<32->b=0->b=a->False:=by intros;lia
theorem L7 {a b c d e:Nat}:d<e->b+e=c+d->(a+1)+b<=a+c:=by intros;lia
theorem L4 {a b:Nat}:b<=a->a<b+1->a=b:=by intros;lia
theorem L0 {a b:Nat}:a<=b->a<b+1:=fun h0=>Nat.succ_le_succ h0
theorem LY {a b c:Nat}:a<b->a<b+c:=fun h0=>af h0 (aP _ _)
theorem LX {a b c:Nat}:b=c+a->(a:Int)=(b:Int) - (c:Int):=by intros;lia
theorem LW {a b:Nat}:a<=b - 1->0<b->a+1<=b:=fun h k=>af (Nat.succ_le_succ h) (Nat.le_of_eq (Nat.sub_add_cancel k))
theorem LV {a b c d:Int}:c<=b/\b<=d->a<c->a<b:=fun h k=>Int.lt_of_lt_of_le k h.1
theorem LU {a b c d e:Int}:c<=d/\d<=e->a<c->e<b->a<b:=fun h k l=>Int.lt_of_lt_of_le k (Int.le_trans (Int.le_trans h.1 h.2) (Int.le_of_lt l))
theorem LT {a b c d:Int}:c<=a/\a<=d->d<b->a<b:=fun h k=>Int.lt_of_le_of_lt h.2 k
theorem LS {a b c:Nat}:a+b=c->(a+1)+b=c+1:=by intros;lia
theorem LR {a b c:Nat}:a+b=c->a+(b+1)=c+1:=fun h0=>congrArg _ h0
theorem LQ {a b c d:Nat}:d+b=a->((a:Int) - (b:Int))+(c:Int)=(((d+c):Nat):Int):=by intros;lia
theorem LP {a b:Nat}:a<=b->b+1<=a->False:=fun h0 h1=>Nat.not_le_of_lt h1 h0
theorem LO {a b c:Nat}:a+b<=c->c<=(a - 1)+b->0<a->False:=fun h k p=>Nat.lt_irrefl _ (bc (Nat.add_lt_add_right (Nat.sub_lt p Nat.one_pos) b) (af h k))
theorem LN {a b:Nat}:a<=4->b<=a->(0:Int)<=(a:Int) - (b:Int)/\(a:Int) - (b:Int)<(8:Int):=by intros;lia
theorem LM {a:Nat}{b c:Int}:(a:Int)<=b->b<=c->(a:Int)=c->(a:Int)=b:=by intros;lia
theorem LL {a b:Int}:¬a<b->a<=b->a=b:=by intros;lia
theorem LK {a b:Int}:a=b->a<=b:=by intros;lia
theorem LJ {a b:Int}:a<b->a<=b:=fun h0=>Int.le_of_lt h0
theorem LI {a b:Int}:b=a->a<=b:=by intros;lia
theorem LH {a b:Int}:¬b<a->a<=b:=fun h0=>Int.not_lt.mp h0
theorem LG {a b c:Nat}:a<=4->c<=b->b<=a->(0:Int)<=((a:Int) - (b:Int))+(c:Int)/\((a:Int) - (b:Int))+(c:Int)<(8:Int):=by intros;lia
theorem LF {a c d:Nat}{b:Int}:(c:Int)<=b->d<=a->a<=c->b<=(d:Int)->(a:Int)=b:=by intros;lia
theorem LD {a b:Nat}:a+1<=b->a<=b - 1:=fun h0=>Nat.le_sub_of_add_le h0
theorem LC {a b c:Nat}:a<=(b+1)+c->a - 1<=b+c:=fun h=>Nat.sub_le_of_le_add (af h (Nat.le_of_eq (Nat.add_right_comm _ _ _)))
theorem LB {a b:Nat}:b+1<=a->(a - 1)+1=a:=by intros;lia
theorem LA {a b c:Nat}:a<=b+c->a<=b+c:=fun h0=>h0
theorem Ly {a b c:Nat}:a<=b->a<=b+c:=fun h0=>af h0 (aP _ _)
theorem Lx {a b:Nat}:¬b<=a->a<=b - 1:=by intros;lia
theorem Lu {a b c:Nat}:a<=b+(c+1)->a - 1<=b+c:=fun h0=>Nat.sub_le_of_le_add h0
theorem Ls {a b:Nat}:¬a<=b->(a - 1)+1=a:=by intros;lia
theorem Lr {a b c:Nat}:(a+b)+c=(a+c)+b:=Nat.add_right_comm _ _ _
theorem Lq {a b c d e:Nat}:a+c=d+e->(a+b)+c=(d+b)+e:=by intros;lia
theorem Lo {a b c d:Nat}:(a+b)+c=d->(a+b)+(c+1)=d+1:=fun h0=>congrArg _ h0
theorem Lm {a b c d:Nat}:(a+b)+c=d->(a+(b+1))+c=d+1:=by intros;lia
theorem Ll {a b c d:Nat}:(a+b)+c=d->((a+1)+b)+c=d+1:=by intros;lia
theorem Lk {a b c d e f:Nat}:b<=4->(c+d)+e=f->f=b->a=c->(0:Int)<=(a:Int)/\(a:Int)<(8:Int):=fun h1 h2 h3 h4=>⟨Int.natCast_nonneg _,Int.ofNat_lt.mpr (aJ (h4▸af (af (aP c d) (aP _ e)) (af (Nat.le_of_eq (h2.trans h3)) h1)) (by decide))⟩
theorem Lj {a b c d e f g:Nat}:c<=4->(d+e)+f=g->g=c->b=e->a=c->(0:Int)<=(a:Int) - (b:Int)/\(a:Int) - (b:Int)<(8:Int):=fun h1 h2 h3 h4 h5=>by subst h2 h4 h5;exact Ao (af (af (Nat.le_add_left b d) (aP _ f)) (Nat.le_of_eq h3)) h1
theorem Li {a c d e f g h i:Nat}{b:Int}:(a+d)+c=e->e=f->g=a->h=d->i=f->(g:Int)<=b->b<=(i:Int) - (h:Int)->(a:Int)<=b/\b<=(a:Int)+(c:Int):=by intros;lia
theorem Lh {a b c:Nat}:c<b->a<c->a<b:=fun h0 h1=>Nat.lt_trans h1 h0
theorem Lg {b c e f g h i j:Nat}{a d:Int}:(b+e)+c=f->f=g->h=b->i=e->j=g->¬d=(h:Int)->(b:Int)<=d/\d<=(b:Int)+(c:Int)->(b:Int)<=a/\a<=(b:Int)+(c:Int)->¬a=(j:Int) - (i:Int)->a<(b:Int)+(c:Int)/\(b:Int)<d:=by intros;lia
theorem Lf {a b c d:Nat}:c=d+1->b=d->a<c->¬a<d->a=b:=by intros;lia
theorem Le {c d:Nat}{a b:Int}:b<(c:Int)+(d:Int)/\(c:Int)<a->(0:Int)<=a:=by intros;lia
theorem Ld {a d e:Nat}{b c:Int}:c<(d:Int)+(e:Int)/\(d:Int)<b->a=d+1->a<=Int.toNat b:=fun h k=>k▸Int.lt_toNat.mpr h.2
theorem Lc {b c d e:Nat}{a:Int}:(d:Int)<=a/\a<=(d:Int)+(e:Int)->b=d+1->c+1=e->Int.toNat a<=b+c:=fun h k l=>by subst k l;exact af (wJ h) (Nat.le_of_eq (Nat.add_right_comm d c 1))
theorem Lb {a c d:Nat}{b:Int}:(c:Int)<=b/\b<=(c:Int)+(d:Int)->a=c+0->a<=Int.toNat b:=by intros;lia
theorem La {b c d e:Nat}{a f:Int}:a<(d:Int)+(e:Int)/\(d:Int)<f->b=d+0->c+1=e->Int.toNat a<=b+c:=fun h k l=>by subst k l;exact Int.toNat_le.mpr (Int.le_of_lt_add_one h.1)
theorem K9 {a c d e:Nat}{b:Int}:a+c=d+c->(d:Int)<=b/\b<=(d:Int)+(e:Int)->a<=Int.toNat b:=fun h k=>by have:=Nat.add_right_cancel h;subst this;exact Ap k
theorem K8 {b c d e f:Nat}{a:Int}:b+d=e+d->(e:Int)<=a/\a<=(e:Int)+(f:Int)->c=f->Int.toNat a<=b+c:=fun h k l=>by have:=Nat.add_right_cancel h;subst this;subst l;exact wJ k
theorem K7 {b c:Nat}{a:Int}:(b:Int)<=a/\a<=(b:Int)+(c:Int)->(((Int.toNat a):Nat):Int)=a:=by intros;lia
theorem K6 {a b c:Nat}:a<=b->b<=c->a<=min b c:=by intros;lia
theorem K4 {a b:Nat}:a<=b->a<=b+(0+1):=fun h0=>Nat.le_succ_of_le h0
theorem K0 {a b c:Nat}:a<=c->a<=b->a<=min b c:=fun h k=>Nat.le_min.mpr ⟨k,h⟩
theorem KY {a b:Nat}:b=1000000->a<=100->a<=b:=by intros;lia
theorem KW {a b c d:Nat}:c<=10000->b=1000000->c=a+d->a<=b:=by intros;lia
theorem KV {b:Nat}{a c:Int}:b=1000000->Int.natAbs a<=100/\Int.natAbs c<=100->Int.natAbs a<=b/\Int.natAbs (c+(1:Int))<=b:=fun h k=>by subst h;exact ⟨af k.1 (by decide),af (Int.natAbs_add_le _ _) (af (Nat.add_le_add_right k.2 _) (by decide))⟩
theorem KU {a:Nat}:a=0->0<a->False:=by intros;lia
theorem KT {a:Nat}:(((a+1):Nat):Int) - (1:Int)=(a:Int):=by intros;lia
theorem KS {a:Nat}:Int.toNat ((((a+1):Nat):Int) - (1:Int))=a:=Int.toNat_sub (a+1) 1
theorem KR {a:Nat}:(0:Int)<=(((a+1):Nat):Int) - (1:Int):=by intros;lia
theorem KQ {a b c:Nat}:a+c<=100->156=(156 - (a - b))+(a - b):=fun h=>(Nat.sub_add_cancel (af (Nat.sub_le _ _) (af (aP _ _) (af h (by decide))))).symm
theorem KP {a b:Nat}:a+b<=100->a<=1000:=fun h0=>af (aP _ _) (af h0 (by decide))
theorem KO {a b:Nat}:a<b->a≠b:=fun h0=>Nat.ne_of_lt h0
theorem KN {a b:Nat}:(a:Int)<(a:Int)+((b:Int)+(1:Int)):=by intros;lia
theorem KM {a b c d:Nat}:b<=100->a<=c->b=c+(d+1)->a<=99:=by intros;lia
theorem KL {a:Nat}:a<=99->a<=100:=fun h0=>Nat.le_succ_of_le h0
theorem KJ {a:Nat}:a<=100->158=(158 - a)+a:=fun h=>(Nat.sub_add_cancel (af h (by decide))).symm
theorem KI {a:Nat}:a<64->a<=100:=fun h0=>Nat.le_of_lt (bc h0 (by decide))
theorem KH {a:Nat}:a<64->a<=63:=fun h0=>Nat.le_of_lt_succ h0
theorem KG {a b:Nat}:a+b<64->a<=100:=fun h0=>af (af (aP _ _) (Nat.le_of_lt h0)) (by decide)
theorem KF {a b:Nat}:b+a<64->a<=100:=fun h0=>af (af (Nat.le_add_left _ _) (Nat.le_of_lt h0)) (by decide)
theorem KE {a b:Nat}:a+b<64->a+b<=100:=fun h0=>Nat.le_of_lt (bc h0 (by decide))
theorem KD {a b:Nat}:a+b<64->a+b<=63:=fun h0=>Nat.le_of_lt_succ h0
theorem KC {a:Nat}:a<=5->a<=100:=fun h0=>af h0 (by decide)
theorem KB {a:Nat}:a<=4->a<1000000:=fun h0=>aJ h0 (by decide)
theorem KA {a:Nat}:a<=200->a<=1000000:=fun h0=>af h0 (by decide)
theorem Kz {a:Nat}:a<=5->2+(20*a)<=102:=by intros;lia
theorem Ky {a b:Int}:Int.natAbs a<=9/\Int.natAbs b<=9->Int.natAbs (a - (1:Int))<=10:=fun h=>af (Int.natAbs_sub_le _ _) (Nat.add_le_add_right h.1 1)
theorem Kx {a b c:Int}:Int.natAbs a<=10->Int.natAbs b<=9/\Int.natAbs c<=9->Int.natAbs (a+(1:Int))<=1000000/\Int.natAbs b<=1000000:=fun h k=>⟨af (Int.natAbs_add_le _ _) (af (Nat.add_le_add_right h _) (by decide)),af k.1 (by decide)⟩
theorem Kw {a d:Nat}{b c e:Int}:a+(20*(d+1))<=102->Int.natAbs c<=10->Int.natAbs b<=9/\Int.natAbs e<=9->(a+(Int.toNat (b - (c+(1:Int)))))+(20*d)<=102:=fun h1 h2 h3=>by have p:Int.toNat (b - (c+1))<=20:=Int.toNat_le.mpr (by have:=ND h3.1;have:=NC h2;omega);clear h2 h3;omega
theorem Kv {a b:Int}:Int.natAbs b<=9/\Int.natAbs a<=9->Int.natAbs a<=10:=by intros;lia
theorem Ku {a b c:Nat}:(a+(b+1))+(20*c)<=102->a<=200:=by intros;lia
theorem Kt {a b c:Nat}:(a+(b+1))+(20*c)<=102->((a+1)+b)+(20*c)<=102:=fun h0=>Nat.succ_add _ _▸h0
theorem Ks {a:Nat}:a<=4->a<=1000000:=fun h0=>af h0 (by decide)
theorem Kr {a:Nat}:a+1<=100->a<1000000:=fun h0=>af h0 (by decide)
theorem Kq {a:Nat}:a=6\/a=7\/13<=a->a≠1/\a≠2/\a≠3/\a≠4/\a≠5/\a≠9/\a≠10/\a≠11/\a≠12/\a≠0:=fun h=>h.elim (fun e=>e▸by decide) fun h=>h.elim (fun e=>e▸by decide) fun h=>have f:∀ k,k<13->a≠k:=fun k q=>Nat.ne_of_gt (bc q h);⟨f 1 (by decide),f 2 (by decide),f 3 (by decide),f 4 (by decide),f 5 (by decide),f 9 (by decide),f 10 (by decide),f 11 (by decide),f 12 (by decide),f 0 (by decide)⟩
theorem Kp {a b c:Nat}:a=1\/a=3\/a=4\/a=5\/a=b\/a=c->a≠1->a≠3->a≠4->a≠5->a≠b->a≠c->False:=by intros;lia
theorem Ko {a b:Nat}:4=1\/4=3\/4=4\/4=5\/4=a\/4=b:=Or.inr (Or.inr (Or.inl rfl))
theorem Kn {a b c:Nat}:b=a->(a:Int)<(b:Int)+((c:Int)+(1:Int)):=by intros;lia
theorem Km {a b:Nat}:a+(b+1)<=1000->a+b<=1000:=fun h0=>Nat.le_of_lt h0
theorem Kl {a:Nat}:(0:Int)<=(a:Int)/\(a:Int)<(8:Int)->a<=800:=by intros;lia
theorem Kk {a:Nat}:a<=4->a<=800:=fun h0=>af h0 (by decide)
theorem Kj {a:Nat}:(0:Int)<=(a:Int)/\(a:Int)<(8:Int)->a<=1000:=by intros;lia
theorem Ki {a b:Nat}:a<b->(a:Int)<(b:Int):=fun h0=>Int.ofNat_le.mpr h0
theorem Kh {a:Nat}:-(1:Int)<(a:Int):=Int.natCast_nonneg _
theorem Kg {a b:Nat}:a+(b+1)<=400->a<=400:=fun h0=>af (aP _ _) h0
theorem Kf {a b c:Nat}:c+(b+1)<=400->a<=c+1->a+b<=400:=by intros;lia
theorem Ke {a:Nat}:a<=100->3+a<=400:=by intros;lia
theorem Kd {a b c:Nat}:b<=10->a+(c+1)=b->a<=10:=by intros;lia
theorem Kc {a:Int}:(0:Int)<a->a≠(0:Int):=fun h0=>fun h=>absurd (h▸h0) (by decide)
theorem Kb {a:Int}:(0:Int)<=a/\a<=(1000:Int)->Int.natAbs a<=1000000:=fun h=>Oo (n:=1000000) (Int.le_trans (by decide) h.1) (Int.le_trans h.2 (by decide))
theorem Ka {a b:Nat}:a=5/\b<32\/a=3/\b<8->a<=5:=fun h=>h.elim (fun e=>Nat.le_of_eq e.1) (fun e=>e.1▸by decide)
theorem J9 {a:Nat}:a<=5->Int.natAbs (a:Int)<=1000000:=fun h0=>af h0 (by decide)
theorem J8 {a:Nat}:(0:Int)<=(0:Int)+(a:Int):=Int.natCast_nonneg _
theorem J7 {a:Nat}:Int.toNat ((0:Int)+(a:Int))=a:=Nat.add_comm _ _
theorem J6 {a b:Nat}:b<=5->a<b->a<5:=fun h0 h1=>af h1 h0
theorem J5 {a b:Nat}:a<=b->a+1<=(b+1)+1:=by intros;lia
theorem J4 {a:Nat}:a<=4->a<=10:=fun h0=>af h0 (by decide)
theorem J3 {a:Nat}:a<=4->a+1<=5:=fun h0=>Nat.succ_le_succ h0
theorem J2 {a b:Int}:b<=(900:Int)->a<=b->(0:Int)<=a/\a<=(1000:Int)->(0:Int)<=a+(1:Int)/\a+(1:Int)<=(1000:Int):=fun h k l=>⟨Int.le_trans l.1 (Int.le_add_of_nonneg_right (by decide)),Int.le_trans (Int.add_le_add_right (Int.le_trans k h) 1) (by decide)⟩
theorem J1 {a b:Int}:a<=b->a+(1:Int)<=b+(1:Int):=by intros;lia
theorem J0 {a:Nat}:min 40 a<=40:=Nat.min_le_left _ _
theorem JY {a:Nat}:1<=1+a:=aP _ _
theorem JX {a:Nat}:(a:Int)<(3:Int)->1+a<=3:=by intros;lia
theorem JW {a:Nat}:a<=63->a<=1000:=fun h0=>af h0 (by decide)
theorem JV {a b c:Int}:c<=b->a<=c->a<=b:=fun h0 h1=>Int.le_trans h1 h0
theorem JU {a b:Nat}:a=7/\b=3\/a=31/\b=5->(0:Int)<(a:Int):=fun h=>h.elim (fun e=>e.1▸by decide) (fun e=>e.1▸by decide)
theorem JT {a b c:Nat}:b=7/\c=3\/b=31/\c=5->(a:Int)<(b:Int)->1+a<32:=fun h k=>h.elim (fun e=>Nat.add_comm a 1▸Nat.lt_trans (Nat.succ_lt_succ (e.1▸Int.ofNat_lt.mp k)) (by decide)) (fun e=>Nat.add_comm a 1▸Nat.succ_lt_succ (e.1▸Int.ofNat_lt.mp k))
theorem JS {a:Nat}:0<1+a:=aP _ _
theorem JR {a b c:Nat}:c=7/\a=3\/c=31/\a=5->(b:Int)<(c:Int)->a=5/\1+b<32\/a=3/\1+b<8:=fun h k=>h.elim (fun e=>Or.inr ⟨e.2,Nat.add_comm b 1▸Nat.succ_lt_succ (e.1▸Int.ofNat_lt.mp k)⟩) (fun e=>Or.inl ⟨e.2,Nat.add_comm b 1▸Nat.succ_lt_succ (e.1▸Int.ofNat_lt.mp k)⟩)
theorem JQ {a:Nat}:0+a<=a:=Nat.le_of_eq (Nat.add_comm _ _)
theorem JP {a b:Nat}:1<=b/\b<=3->a<b->(1:Int)+(a:Int)<=(900:Int):=by intros;lia
theorem JO {a:Nat}:((1:Int)+(a:Int))+(1:Int)<=(1:Int)+(((a+1):Nat):Int):=by intros;lia
theorem JN {a:Nat}:1<=a/\a<=3->(1:Int)+(a:Int)<=(900:Int):=by intros;lia
theorem JM {a b:Nat}:1<=b/\b<=3->a=b->a<=1000:=by intros;lia
theorem JL {a:Nat}:1<=a/\a<=3->((1:Int)+(a:Int))+(1:Int)<=(5:Int):=by intros;lia
theorem JK {a:Nat}:0<a->(0:Int)<(a:Int):=fun h0=>Int.ofNat_le.mpr h0
theorem JJ {a b:Nat}:(a:Int)<(b:Int)->a<b:=fun h0=>Int.ofNat_le.mp h0
theorem JI {a:Nat}:Int.toNat ((a:Int) - (0:Int))=a:=rfl
theorem JH {a:Nat}:1<=a/\a<=3->a<=4:=by intros;lia
theorem JG {a:Nat}:0+(1+a)<=1+a:=Nat.le_of_eq (Nat.add_comm _ _)
theorem JF {a b:Nat}:b<4->a<1+b->(10:Int)+(a:Int)<=(900:Int):=by intros;lia
theorem JE {a:Nat}:1<=a/\a<=3->0<a:=fun h0=>h0.1
theorem JD {a:Nat}:((10:Int)+(a:Int))+(1:Int)<=(10:Int)+(((a+1):Nat):Int):=by intros;lia
theorem JC {a:Nat}:a<4->Int.natAbs (((1+a):Nat):Int)<=1000000:=fun h=>af (Nat.add_le_add_left (Nat.le_of_lt h) 1) (by decide)
theorem JB {a:Nat}:Int.toNat ((((1+a):Nat):Int) - (0:Int))=1+a:=rfl
theorem JA {a:Nat}:(a:Int)=(1:Int)->a=1:=fun h0=>Int.ofNat_inj.mp h0
theorem Jz {a:Nat}:¬(a:Int)=(1:Int)->a≠1:=fun h0=>fun h=>absurd (h▸h0) (by decide)
theorem Jy {a:Nat}:a<4->(10:Int)+(((1+a):Nat):Int)<=(30:Int):=by intros;lia
theorem Jx {a b:Nat}:b<4->a=1+b->a<=4:=by intros;lia
theorem Jw {a b:Nat}:a=b+1->0<a:=by intros;lia
theorem Jv {a b c:Nat}:b<=5*c->a<=5->a+b<=5*(c+1):=fun h k=>af (Nat.add_le_add k h) (Nat.le_of_eq (Nat.add_comm _ _))
theorem Ju {a b:Nat}:¬a<b->a<b+1->a=b:=fun h0 h1=>Nat.le_antisymm (Nat.le_of_lt_succ h1) (Nat.le_of_not_lt h0)
theorem Jt {a b:Nat}:a+1=b+1->a=b:=fun h0=>Nat.succ.inj h0
theorem Js {a:Nat}:a<=5->a<64:=fun h0=>aJ h0 (by decide)
theorem Jr {a:Nat}:a+1<=4->a<=4:=fun h0=>Nat.le_of_lt h0
theorem Jq {a:Nat}:a+1<=4->a<=10:=fun h0=>Nat.le_of_lt (bc h0 (by decide))
theorem Jp {a:Nat}:0+a=a:=Nat.add_comm _ _
theorem Jo {a b c d e f:Nat}:c<=4->d<=5*c->a+b<=e+f->e+f=d->a+b<=20:=by intros;lia
theorem Jm {a:Nat}:a<=10->a+1<=20:=fun h0=>aJ h0 (by decide)
theorem Jl {a:Nat}:a=9\/a=10\/a=11->12≠a:=fun h0=>fun h=>absurd (h▸h0) (by decide)
theorem Jk {a b c d e:Nat}:c<d->b+d=e+c->a+e<=20->(a+1)+b<=100:=by intros;lia
theorem Jj {a b c d e:Nat}:c<d->b+d=e+c->a+e<=20->(a+1)+b<=20:=by intros;lia
theorem Ji {a b c d:Nat}:c+d<=20->a+b<=c+d->a+b<=20:=fun h0 h1=>af h1 h0
theorem Jh {a b c:Nat}:a<=5->b<=5*c->a+b<=5*(c+1):=by intros;lia
theorem Jg {a:Nat}:a+1<=4->a<=3:=fun h0=>Nat.le_of_lt_succ h0
theorem Jf {a:Nat}:a+1<=4->a<=1000:=fun h0=>Nat.le_of_lt (bc h0 (by decide))
theorem Je {b:Nat}{a:Int}:a+((3:Int)*(((b+1):Nat):Int))<=(60:Int)->a+((3:Int)*(b:Int))<=(60:Int):=by intros;lia
theorem Jd {a b:Nat}:a+(b+1)<=3->a+b<=3:=fun h0=>Nat.le_of_lt h0
theorem Jc {b:Nat}{a:Int}:a+((3:Int)*(((b+1):Nat):Int))<=(60:Int)->a<=(900:Int):=by intros;lia
theorem Jb {a:Nat}:0<a+1:=Nat.succ_pos _
theorem Ja {b:Nat}{a:Int}:a+((3:Int)*(((b+1):Nat):Int))<=(60:Int)->a+(1:Int)<=(900:Int):=by intros;lia
theorem I9 {b:Nat}{a:Int}:a+((3:Int)*(((b+1):Nat):Int))<=(60:Int)->(a+(1:Int))+(1:Int)<=(900:Int):=by intros;lia
theorem I8 {a b:Nat}:a=6/\b=7->12≠a:=by intros;lia
theorem I7 {a b:Nat}:b=6/\a=7->12≠a:=by intros;lia
theorem I6 {a b:Nat}:a+(b+1)<=3->a<=1000:=fun h0=>af (aP _ _) (af h0 (by decide))
theorem I5 {a b:Nat}:a+(b+1)<=3->a<=10:=fun h0=>af (aP _ _) (af h0 (by decide))
theorem I4 {a:Nat}:(0:Int)<=(a:Int):=Int.natCast_nonneg _
theorem I3 {a:Nat}:a<5->(a:Int)<(8:Int):=by intros;lia
theorem I0 {b:Nat}{a:Int}:a+((3:Int)*(((b+1):Nat):Int))<=(60:Int)->(((a+(1:Int))+(1:Int))+(1:Int))+((3:Int)*(b:Int))<=(60:Int):=by intros;lia
theorem IY {a b:Nat}:a+(b+1)<=3->(a+1)+b<=3:=fun h0=>Nat.succ_add _ _▸h0
theorem IX {a b:Nat}:a+b<=20->a<=20:=fun h0=>af (aP _ _) h0
theorem IW {a b:Nat}:b<=20->min a b<=20:=fun h=>af (Nat.min_le_right _ _) h
theorem IV {a b c d:Nat}:c=d->b<=5*c->d<=4->a<=20->a+b<=100:=by intros;lia
theorem IU {a b c:Nat}:b=c->a<=5*b->c<=4->0+a<=100:=by intros;lia
theorem IT {a:Nat}:a+(0+1)<=20->a<=20:=fun h0=>Nat.le_of_lt h0
theorem IS {a b:Nat}:13<=b->a=9\/a=10\/a=11\/a=12->a<b:=fun h k=>bc (k.elim (fun e=>e▸by decide) fun k=>k.elim (fun e=>e▸by decide) fun k=>k.elim (fun e=>e▸by decide) (fun e=>e▸by decide):a<13) h
theorem IR {a:Nat}:a=9\/a=10\/a=11\/a=12->a≠1:=fun h0=>fun h=>absurd (h▸h0) (by decide)
theorem IQ {a:Nat}:a=9\/a=10\/a=11\/a=12->a≠3:=fun h0=>fun h=>absurd (h▸h0) (by decide)
theorem IP {a:Nat}:a=9\/a=10\/a=11\/a=12->a≠4:=fun h0=>fun h=>absurd (h▸h0) (by decide)
theorem IO {a:Nat}:a=9\/a=10\/a=11\/a=12->a≠5:=fun h0=>fun h=>absurd (h▸h0) (by decide)
theorem IN {a:Nat}:a=10\/a=11->a=9\/a=10\/a=11\/a=12:=by intros;lia
theorem IM {a:Nat}:13<=a->12≠a:=fun h0=>Nat.ne_of_lt h0
theorem IL {a:Nat}:13<=a->12≠a+1:=by intros;lia
theorem IK {a:Nat}:a=10\/a=11->12≠a:=fun h0=>fun h=>absurd (h▸h0) (by decide)
theorem IJ {a b:Nat}:a=b+2->13<=b->13<=a:=by intros;lia
theorem II {a b:Nat}:b+1<=1000->a=b+1->a<=1000:=fun h0 h1=>h1▸h0
theorem IG {a:Nat}:a+1<=1000->a<=1000:=fun h0=>Nat.le_of_lt h0
theorem IF {a:Int}:a=(1:Int)\/a=(2:Int)->¬a=(0:Int):=fun h0=>fun h=>absurd (h▸h0) (by decide)
theorem IE {a:Nat}:a<=3->a<=1000:=fun h0=>af h0 (by decide)
theorem ID {a:Nat}:a<=3->((153 - a)+a)+30=183:=fun h=>congrArg (·+30) (Nat.sub_add_cancel (af h (by decide)))
theorem IC {a b:Nat}:b<=3->a=b+1->a<=4:=by intros;lia
theorem IB {a b:Nat}:a=b->b<=4->a<=1000:=fun h0 h1=>af (Nat.le_of_eq h0) (af h1 (by decide))
theorem IA {a b:Nat}:b<=4->a=b->Int.natAbs (a:Int)<=1000000:=fun h0 h1=>af (Nat.le_of_eq h1) (af h0 (by decide))
theorem Iy {a:Nat}:a<=4->Int.natAbs (a:Int)<=1000000:=fun h0=>af h0 (by decide)
theorem Ix {a b:Nat}:a<=b->b<=100->Int.natAbs (a:Int)<=1000000:=fun h0 h1=>af (af h0 h1) (by decide)
theorem Iw {a b:Nat}:Int.toNat ((a:Int) - (b:Int))=a - b:=Int.toNat_sub a b
theorem Iu {a b c:Nat}:0=(a - b) - c->a - b<=c:=fun h=>Nat.le_of_sub_eq_zero h.symm
theorem It {a b c:Nat}:a - b<=c->a<=b+c:=fun h=>Nat.add_comm c b▸Nat.sub_le_iff_le_add.mp h
theorem Ir {a b c d:Nat}:d+1=(b - c) - a->a<b - c:=fun h=>Nat.lt_of_sub_pos (h▸Nat.succ_pos _)
theorem Iq {a b c:Nat}:c+a<b->a+1<=b - c:=fun h=>Nat.lt_sub_of_add_lt (Nat.add_comm c a▸h)
theorem Ip {a:Nat}:a<=1000->a<=1000:=fun h0=>h0
theorem Im {a b c:Nat}:a<Int.toNat ((b:Int) - (c:Int))->a<b - c:=fun h=>Int.toNat_sub b c▸h
theorem Il {a:Nat}:0<a->¬1<a->a=1:=fun h0 h1=>Nat.le_antisymm (Nat.le_of_not_lt h1) h0
theorem Ik {a b c:Nat}:a+(b+1)=c->c<=1000->a<=1000:=by intros;lia
theorem Ij {a b:Nat}:a+(b+1)<=4->a<=4:=fun h0=>af (aP _ _) h0
theorem Ii {a:Nat}:2+(2*a)=2*(a+1):=Nat.add_comm _ _
theorem Ih {a:Nat}:a<=4->a<64:=fun h0=>aJ h0 (by decide)
theorem Ig {a:Nat}:a<=4->2*a<=900:=by intros;lia
theorem Ie {a b c:Nat}:b<=4->a+c=b->a<=4:=by intros;lia
theorem Ic {a:Nat}:a<=4->2*a<=1000:=by intros;lia
theorem Ib {a b:Int}:Int.natAbs a<=4/\Int.natAbs b<=4->Int.natAbs a<=9/\Int.natAbs b<=9:=by intros;lia
theorem Ia {a b c:Nat}:b<=8*c->a<=8->a+b<=8*(c+1):=by intros;lia
theorem HY {a b c:Nat}:a<=4->b<=a->c<=b->(0:Int)<=((a:Int) - (b:Int))+(c:Int)/\((a:Int) - (b:Int))+(c:Int)<(8:Int):=by intros;lia
theorem HX {a b:Nat}:b<=4->a<=b->a<=900:=fun h0 h1=>af (af h1 h0) (by decide)
theorem HW {a:Nat}:5<a->a≠1:=fun h0=>fun h=>absurd (h▸h0) (by decide)
theorem HV {a:Nat}:5<a->a≠3:=fun h0=>fun h=>absurd (h▸h0) (by decide)
theorem HU {a:Nat}:5<a->a≠4:=fun h0=>fun h=>absurd (h▸h0) (by decide)
theorem HT {a:Nat}:5<a->a≠5:=fun h0=>Nat.ne_of_gt h0
theorem HS {a:Nat}:a<=5->(0:Int)<=(a:Int)/\(a:Int)<(8:Int):=fun h0=>⟨Int.natCast_nonneg _,Int.ofNat_lt.mpr (aJ h0 (by decide))⟩
theorem HQ {a b:Nat}:b<=4->a<=8*b->a<=900:=by intros;lia
theorem HP {a b c:Nat}:b<=4->a+(c+1)=b->a<=4:=by intros;lia
theorem HO {a b:Nat}:a<=3->b<=3->a+b<64:=by intros;lia
theorem HN {a b:Nat}:b<=4->a<=8*b->a<=1000:=by intros;lia
theorem HM {a:Nat}:a<=8->a<=1000:=fun h0=>af h0 (by decide)
theorem HL {a:Nat}:a<=3->a<=100:=fun h0=>af h0 (by decide)
theorem HK {a b:Int}:Int.natAbs a<=4/\Int.natAbs b<=4->Int.natAbs a<=100/\Int.natAbs b<=100:=by intros;lia
theorem HJ {a:Nat}:a<=5->a<=10000:=fun h0=>af h0 (by decide)
theorem HI {a:Int}:(0:Int)<=a/\a<(5:Int)->(0:Int)<=a/\a<(8:Int):=fun h=>⟨h.1,Int.lt_trans h.2 (by decide)⟩
theorem HH {a b c d:Nat}:b<=4->c<=b->d<=c->a=d->a+1<=900:=fun h1 h2 h3 h4=>by subst h4;exact af (Nat.succ_le_succ (af (af h3 h2) h1)) (by decide)
theorem HF {a b c:Nat}:b<=4->c<=b->a=c->a+1<=900:=by intros;lia
theorem HE {a b c:Nat}:b<=4->c<=b->a=c->a<=1000:=by intros;lia
theorem HD {a:Nat}:(0:Int)<=(-(1:Int))+(((a+1):Nat):Int):=by intros;lia
theorem HC {a:Nat}:Int.toNat ((-(1:Int))+(((a+1):Nat):Int))=a:=by intros;lia
theorem HB {a b c:Nat}:b<=c->a+(10*c)<=900->a+(10*b)<=900:=by intros;lia
theorem HA {a b c:Nat}:b<=c->(a+(100*c))+500<=9000->(a+(100*b))+500<=9000:=by intros;lia
theorem Hz {a b:Nat}:(a+(100*(b+1)))+500<=9000->((a+3)+(100*b))+500<=9000:=by intros;lia
theorem Hy {a b c:Nat}:(a+(100*c))+500<=9000->b=9900->a+64<b:=fun h k=>by subst k;exact aJ (Nat.add_le_add_right (af (af (aP _ _) (aP _ _)) h) 64) (by decide)
theorem Hw {a b c:Nat}:a+(10*c)<=900->b=1000->a<b:=fun h k=>k▸aJ (af (aP _ _) h) (by decide)
theorem Hv {a b c d e f:Nat}:d+e<=c->a+(b+f)=d+e->a+b<=c:=by intros;lia
theorem Ht {a b c:Nat}:c+1<=b->a=c->a<=b:=by intros;lia
theorem Hs {a b c:Nat}:a<=1->b<=c->a+b<=c+1:=by intros;lia
theorem Hr {a b c d:Nat}:c=1000000->b=16777216->a<=d->d<=2*c->a<=b:=by intros;lia
theorem Hq {a b:Nat}:b - a=0->a<=b->a=b:=fun h k=>Nat.le_antisymm k (Nat.le_of_sub_eq_zero h)
theorem Hp {a b c:Nat}:b - a=c+1->a<b:=fun h=>Nat.lt_of_sub_pos (h▸Nat.succ_pos _)
theorem Ho {a b c:Nat}:a - b=c+1->a - (b+1)=c:=fun h=>congrArg Nat.pred h
theorem Hn {a b c:Nat}:a+(c+1)<=b->a<=b:=fun h0=>af (aP _ _) h0
theorem Hm {a b c:Nat}:a+(c+1)<=b->a+1<=b+1:=by intros;lia
theorem Hl {a b:Int}:(Int.toNat (a - b)) - 0=Int.toNat (a - b):=rfl
theorem Hj {a d e:Nat}{b c:Int}:Int.natAbs c<=e->Int.natAbs b<=e->a<=e->e=1000000->d=16777216->a+(Int.toNat (b - c))<=d:=fun h1 h2 h3 h4 h5=>by subst h4 h5;exact af (Nat.add_le_add h3 (jt ⟨h1,h2⟩)) (by decide)
theorem G9 {a b c:Nat}:a<=c->c=1000000->b=16777216->a+1<=b+1:=by intros;lia
theorem G8 {a b c:Nat}:a<=c->c=1000000->b=16777216->a+1<=b:=by intros;lia
theorem G7 {a b c:Nat}:a<=c->c=1000000->b=16777216->(a+1) - 1<=b+1:=fun h k l=>by subst k l;exact af h (by decide)
theorem G6 {a b c d e f:Nat}:d<=e->e=1000000->c=16777216->a=d->f<=e->b=f->a+b<=c:=fun h1 h2 h3 h4 h5 h6=>by subst h2 h3 h4 h6;exact af (Nat.add_le_add h1 h5) (by decide)
theorem G5 {a:Nat}:a<=15->a<=500:=fun h0=>af h0 (by decide)
theorem G4 {a:Nat}:a<=1000->a<=16777216+1:=fun h0=>af h0 (by decide)
theorem G3 {a b:Nat}:b<=500->a<=b+1->a<=1000:=by intros;lia
theorem GY {b:Nat}{a:Int}:¬(0:Int)<=a->(0:Int)<=a+(b:Int)->Int.toNat (a+(b:Int))<b:=fun h k=>(Int.toNat_lt k).mpr (by have:=Int.not_le.mp h;clear h k;omega)
theorem GX {a b c:Nat}:b=16777216->c<=400->a=c->a<=b:=by intros;lia
theorem GV {a b c d:Nat}:c=1000000->b=16777216->d<=c->a<=d->a<=b:=fun h1 h2 h3 h4=>by subst h1 h2;exact af h4 (af h3 (by decide))
theorem GU {a b c:Nat}:c<=b->a<=c+1->a<=b+1:=by intros;lia
theorem GT {a b c:Nat}:c=b->a<c->a<b:=fun h0 h1=>h0▸h1
theorem GS {a b c:Nat}:b=c->a<b->a<min b c:=fun h k=>Nat.lt_min.mpr ⟨k,h▸k⟩
theorem GR {a b c:Nat}:a<=c->b<=c->c=1000000->a+b<=16777216:=by intros;lia
theorem GQ {b:Nat}{a:Int}:¬(a=(0:Int)\/b<Int.natAbs a)->b=1000000->Int.natAbs a<1073741824:=by intros;lia
theorem GP {a b c d:Nat}:a+64<d->b<=16->(a+1)+(min b c)<d:=fun h k=>aJ (Nat.add_le_add_left (af (Nat.min_le_left _ _) k) (a+1)) (aJ (show a+17<=a+64 from Nat.add_le_add_left (by decide) a) h)
theorem GO {a b:Nat}:a<=b->a<(b+1)+1:=by intros;lia
theorem GN {a b c:Nat}:a<=b->c<a->c=b->False:=by intros;lia
theorem GM {a b:Nat}:(a+(100*(b+1)))+500<=9000->((a+1)+(100*b))+500<=9000:=by intros;lia
theorem GK {a:Int}:(0:Int)<=a->¬a<(0:Int):=fun h0=>Int.not_lt.mpr h0
theorem GJ {a:Nat}{b:Int}:¬b<(0:Int)->-(a:Int)<=b:=by intros;lia
theorem GI {b:Nat}{a:Int}:Int.toNat a<b->a<(b:Int):=fun h=>Int.lt_of_le_of_lt (Int.self_le_toNat a) (Int.ofNat_lt.mpr h)
theorem GH {b:Nat}{a:Int}:Int.toNat a<b->¬a<(0:Int)->(0:Int)<=a/\a<(b:Int):=fun h k=>⟨Int.not_lt.mp k,(Int.toNat_lt (Int.not_lt.mp k)).mp h⟩
theorem GG {b:Nat}{a:Int}:a<(0:Int)->a<(b:Int):=by intros;lia
theorem GF {b:Nat}{a:Int}:(0:Int)<=a+(b:Int)->a<(0:Int)->(0:Int)<=a+(b:Int)/\a+(b:Int)<(b:Int):=fun h k=>⟨h,by clear h;omega⟩
theorem GE {a b c:Nat}:c=b->a=(c+1)+1->a=(b+1)+1:=fun h0 h1=>h0▸h1
theorem GD {a b:Nat}:a=b->a<=b:=fun h0=>Nat.le_of_eq h0
theorem GC {a:Nat}:1<=a->max ((-(1:Int))+(a:Int)) (0:Int)=(a:Int) - (1:Int):=by intros;lia
theorem GB {a:Nat}:Int.toNat (((((a:Int) - (1:Int)) - (0:Int)) - (1:Int))+(1:Int))=a - 1:=by rw [Int.sub_zero,Int.sub_add_cancel];exact Int.toNat_sub a 1
theorem GA {a:Nat}:¬(0:Int)<(a:Int) - (1:Int)->Int.toNat (0:Int)=a - 1:=fun h=>(Nat.sub_eq_zero_of_le (Nat.le_of_not_lt fun z=>h (Int.sub_pos_of_lt (Int.ofNat_lt.mpr z)))).symm
theorem Gz {a:Nat}:Int.toNat ((0:Int)+((a:Int)*(1:Int)))=a:=by intros;lia
theorem Gy {a b:Nat}:a<=b->a - 1<=b:=fun h0=>af (Nat.sub_le _ _) h0
theorem Gx {a:Nat}:1<=a->a - 1≠a:=fun h=>Nat.ne_of_lt (Nat.sub_lt h Nat.one_pos)
theorem Gw {a:Nat}:(((a+1)+1)+1) / 2=((a+1) / 2)+1:=Nat.add_div_right (a+1) (z:=2) (by decide)
theorem Gv {a:Nat}:Int.toNat (((((a:Int) - (0:Int))+(2:Int)) - (1:Int)) / (2:Int))=(a+1) / 2:=by intros;lia
theorem Gs {a:Nat}:¬(0:Int)<(a:Int)->Int.toNat (0:Int)=(a+1) / 2:=fun h=>by have:a=0:=Nat.eq_zero_of_not_pos fun z=>h (Int.ofNat_lt.mpr z);subst this;rfl
theorem Gr {a:Nat}:Int.toNat ((0:Int)+((2:Int)*(a:Int)))=2*a:=Nat.add_comm _ _
theorem Gq {a:Nat}:0<a->1<=a:=fun h0=>h0
theorem Gp {a b:Int}:b<a->a - b=(((Int.toNat (a - b)):Nat):Int):=fun h=>(Int.toNat_of_nonneg (Int.sub_nonneg_of_le (Int.le_of_lt h))).symm
theorem Go {a b:Int}:¬b<a->(0:Int)=(((Int.toNat (a - b)):Nat):Int):=by intros;lia
theorem Gn {b:Nat}{a:Int}:a+((((b+0):Nat):Int)*(1:Int))=a+(b:Int):=by intros;lia
theorem Gm {a b:Nat}:(((a+(b+1)):Nat):Int)*(1:Int)=((((a+1)+b):Nat):Int)*(1:Int):=by intros;lia
theorem Gl {a:Nat}:(a:Int)*(1:Int)=(((0+a):Nat):Int)*(1:Int):=by intros;lia
theorem Gk {a b:Nat}:a+64<b->a+(1+1)<b:=by intros;lia
theorem Gi {a:Nat}:a<=a+0:=aU _
theorem Gh {a b:Nat}:a<=a+(b+1):=aP _ _
theorem Gg {a b c:Nat}:a=(b+1)+c->a=b+(c+1):=by intros;lia
theorem Gf {a b c d:Nat}:c<=d->a<=c/\c<b->¬(a<=d/\d<b)->((a+b) - 1) - c<=d:=fun h k l=>af (Nat.le_of_lt (tv k)) (Nat.le_of_not_lt fun z=>l ⟨af k.1 h,z⟩)
theorem Ge {a b c d:Nat}:a<=d->¬(b<=a/\a<c)->b<=d/\d<c->a<=((b+c) - 1) - d:=fun h l k=>af (Nat.le_of_lt (Nat.lt_of_not_le fun z=>l ⟨z,aJ h k.2⟩)) (wK k)
theorem Gc {a b c d:Nat}:b<=d->a<=c/\c<b->((a+b) - 1) - c<d:=fun k h=>bc (tv h) k
theorem Gb {a b c d:Nat}:a+(c+1)<=d->b=d->a<=b:=by intros;lia
theorem Ga {a:Nat}:a<=a+1:=Nat.le_succ _
theorem F9 {a b:Nat}:a+1<=b->(a+1)+1<=b+1:=fun h0=>Nat.succ_le_succ h0
theorem F6 {a b c:Nat}:(a+1) - ((b+1)+1)<=c->a - (b+1)<=c:=by intros;lia
theorem FX {a b:Nat}:a<b+1->¬a=b->a<b:=by intros;lia
theorem FV {a b c:Nat}:c<=b->((0+a) - 1) - b<=((0+a) - 1) - c:=fun h=>Nat.sub_le_sub_left h _
theorem FU {a b:Nat}:a<=b->a+(b - a)<=b:=by intros;lia
theorem FT {a b:Nat}:a+1<=b->(a+1)+(b - (a+1))<=b:=fun h=>Nat.le_of_eq (Nat.add_sub_cancel' h)
theorem FS {a b c d:Nat}:c+1<=d->a<=(c+1)+(d - (c+1))->b=d->a<=b:=fun h k e=>e▸af k (Nat.le_of_eq (Nat.add_sub_cancel' h))
theorem FR {a:Nat}:1<=a->1+(a - 1)<=a:=fun h=>Nat.le_of_eq (Nat.add_sub_cancel' h)
theorem FQ {a b:Nat}:1<=b->¬a=b->¬a=1+(b - 1):=fun h k z=>k (z.trans (Nat.add_sub_cancel' h))
theorem FP {a:Nat}:1<=a->0<a:=fun h0=>h0
theorem FO {a b:Nat}:a<=1+(b - 1)->1<a->a - 1<b:=fun h k=>bc (Nat.sub_lt (Nat.lt_trans Nat.one_pos k) Nat.one_pos) (lz h k)
theorem FN {a b:Nat}:a<b->a<=b - 1:=fun h0=>Nat.le_sub_of_add_le h0
theorem FM {a b:Nat}:b<a->a - 1<a:=by intros;lia
theorem FL {a b:Nat}:a<=1+(b - 1)->¬a=b->1<a->a+1<=b:=fun h n k=>Nat.lt_of_le_of_ne (lz h k) n
theorem FK {a b:Nat}:b<a->((0+a) - 1) - b<a:=fun h=>zl (aJ (Nat.zero_le _) h)
theorem FJ {a b:Nat}:a<=b->¬a=b->0<=a/\a<b:=by intros;lia
theorem FI {a:Nat}:1<a->a - 1<a:=fun h=>Nat.sub_lt (Nat.lt_trans Nat.one_pos h) Nat.one_pos
theorem FH {a b:Nat}:1<a->((0+a) - 1) - b<a:=fun h=>zl (aJ (Nat.zero_le _) h)
theorem FG {a:Nat}:1<=a->¬1<a->a=1:=fun h0 h1=>Nat.le_antisymm (Nat.le_of_not_lt h1) h0
theorem FE {a:Nat}:1<=a->¬1=a->1+1<=a:=fun h0 h1=>Nat.lt_of_le_of_ne h0 h1
theorem FD {a b:Nat}:b - a<=0->a<=b->a=b:=fun h k=>Nat.le_antisymm k (Nat.le_of_sub_eq_zero (Nat.le_zero.mp h))
theorem FC {a b:Nat}:a<=b->b<=a->a=b:=fun h0 h1=>Nat.le_antisymm h0 h1
theorem FA {a b c d:Nat}:d<c->b<=d->¬b<=a->(a+b) / 2<c:=fun h1 h2 h3=>have q:=aJ h2 h1;Nat.div_lt_of_lt_mul (Nat.two_mul c▸Nat.add_lt_add (Nat.lt_trans (Nat.lt_of_not_le h3) q) q)
theorem Fz {a b c:Nat}:b - a<=c+1->((a+b) / 2) - a<=c:=fun h=>Nat.sub_le_of_le_add (Nat.le_of_lt_succ (Nat.div_lt_of_lt_mul (by have:=Nat.sub_le_iff_le_add.mp h;clear h;omega)))
theorem Fy {a b:Nat}:¬b<=a->a<=(a+b) / 2:=fun k=>(Nat.le_div_iff_mul_le (by decide)).mpr (Nat.mul_two a▸Nat.add_le_add_left (Nat.le_of_lt (Nat.lt_of_not_le k)) a)
theorem Fx {a b c:Nat}:b<=c->¬b<=a->(a+b) / 2<=c:=fun h k=>Nat.le_of_lt (wI h k)
theorem Fw {a b c:Nat}:a - b<=c+1->a - (((b+a) / 2)+1)<=c:=fun h=>Nat.sub_le_of_le_add (by have p:=Nat.sub_le_iff_le_add.mp h;have q:b+a<2*((b+a)/2+1):=Nat.lt_mul_div_succ _ (by decide);generalize (b+a)/2=z at q ⊢;clear h;omega)
theorem Fv {a b:Nat}:¬b<=a->((a+b) / 2)+1<=b:=fun k=>wI (aU _) k
theorem Fu {a b c:Nat}:a<((b+c) / 2)+1->a<=(b+c) / 2:=fun h0=>Nat.le_of_lt_succ h0
theorem Ft {a b c d:Nat}:a+(c+1)<=d->b=d->a<b:=by intros;lia
theorem Fs {a:Nat}:a - 0<=a:=aU _
theorem Fp {a b:Nat}:b<=a->a - (a - b)=b:=fun h=>Nat.sub_sub_self h
theorem Fo {a b c d:Nat}:a<=b->b<c+1->a=d->¬b=d->¬(d<b/\b<=c)->False:=fun h1 h2 h3 h4 h5=>h5 ⟨Nat.lt_of_le_of_ne (h3▸h1) (Ne.symm h4),Nat.le_of_lt_succ h2⟩
theorem Fn {a b c d:Nat}:a<=b->c<a/\a<=d->b=c->False:=by intros;lia
theorem Fm {a b c d:Nat}:a<=b->b<c+1->d<a/\a<=c->¬(d<b/\b<=c)->False:=fun h1 h2 h3 h4=>h4 ⟨bc h3.1 h1,Nat.le_of_lt_succ h2⟩
theorem Fk {a b c:Nat}:a<=c->¬a=b->c=b->a<b:=by intros;lia
theorem Fj {a b c:Nat}:a<b/\b<=c->a<=b - 1:=fun h=>Nat.le_sub_of_add_le h.1
theorem Fi {a b:Nat}:a<=b->a - 1<=b - 1:=fun h=>Nat.sub_le_sub_right h 1
theorem Fh {a b c d:Nat}:a<=b->¬(c<a/\a<=d)->c<b/\b<=d->a<=b - 1:=fun h k l=>Nat.le_sub_of_add_le (Nat.lt_of_le_of_ne h fun z=>k (z.symm▸l))
theorem Fg {a b c:Nat}:c<=b->a<b+1->¬a=c->¬(c<a/\a<=b)->a<b:=fun h1 h2 h3 h4=>bc (Nat.lt_of_le_of_ne (Nat.le_of_not_lt fun z=>h4 ⟨z,Nat.le_of_lt_succ h2⟩) h3) h1
theorem Ff {a:Nat}:1<=a->max a 1=a:=by intros;lia
theorem Fd {a b:Nat}:a<b->a+(b - a)<=b:=fun h=>Nat.le_of_eq (Nat.add_sub_cancel' (Nat.le_of_lt h))
theorem E9 {a b:Nat}:a<b->a+(b - a)=b:=fun h=>Nat.add_sub_cancel' (Nat.le_of_lt h)
theorem E8 {a b:Int}:¬a=b->a<b\/b<a:=by intros;lia
theorem E7 {a b c:Int}:a<c->c<b->¬a=b:=by intros;lia
theorem E6 {a b c:Int}:a<c->c<b->a<b:=by intros;lia
theorem E5 {a b:Int}:a<=b\/b<=a:=by intros;lia
theorem E4 {a b c:Int}:a<=b->b<=c->a<=c:=by intros;lia
theorem E3 {a b:Int}:a<=b->b<=a->a=b:=by intros;lia
theorem E2 {a b:Int}:b<a->¬a<b:=by intros;lia
theorem E1 {a b:Int}:¬b=a->¬b<a->a<b:=fun h k=>Int.lt_iff_le_and_ne.mpr ⟨Int.not_lt.mp k,Ne.symm h⟩
theorem EY {a b:Nat}:a<=b->0+a<=b+1:=by intros;lia
theorem EX {a b c d:Nat}:b=c->d=c->a<d->a<b:=by intros;lia
theorem EW {a b:Nat}:a<b->a<=b:=fun h0=>Nat.le_of_lt h0
theorem EV {a b c:Nat}:a<c->c=b->a<b:=fun h0 h1=>h1▸h0
theorem EU {a b c:Nat}:a<=b->b<c->c<2->a=b:=fun h1 h2 h3=>by have hb:b=0:=Nat.lt_one_iff.mp (bc h2 (Nat.le_of_lt_succ h3));subst hb;exact Nat.le_zero.mp h1
theorem ET {a b:Nat}:2<=b->a=b->0<a:=by intros;lia
end Mine
end
section
open PySem
set_option maxRecDepth 100000
set_option tactic.hygienic false
namespace Mine
theorem aw {α:Type}{x:α}{G:Prop}(h:none=some x):G:=nomatch h
theorem gQ {α:Type}{x:α}{G:Prop}(h:some x=none):G:=nomatch h
theorem aM {G:Prop}(h:false=true):G:=nomatch h
theorem cg {G:Prop}(h:true=false):G:=nomatch h
@[elab_as_elim] theorem eU {α β:Type}{a:α}{b:β}{P:α->β->Prop}{c:α}{d:β}(h:(a,b)=(c,d)) (k:P a b):P c d:=by cases h;exact k
@[elab_as_elim] theorem dr {α β:Type}{a:α}{b:β}{P:α->β->Prop}{c:α}{d:β}(h:some (a,b)=some (c,d)) (k:P a b):P c d:=by cases h;exact k
@[elab_as_elim] theorem sT {α β γ:Type}{a:α}{b:β}{c:γ}{P:α->β->γ->Prop}{d:α}{e:β}{f:γ}(h:some (a,b,c)=some (d,e,f)) (k:P a b c):P d e f:=by cases h;exact k
@[elab_as_elim] theorem bp {α:Type}{a:α}{P:α->Prop}{c:α}(h:some a=some c) (k:P a):P c:=by (have q_:=aq h;clear h;subst q_);exact k
@[elab_as_elim] theorem aa {α:Sort _}{P:α->Prop}{a b:α}(h:a=b) (k:P b):P a:=h▸k
@[elab_as_elim] theorem bz {α:Type}{P:Option α->Prop}(o:Option α) (h0:P none) (h1:∀ a,P (some a)):P o:=match o with | none=>h0 | some a=>h1 a
theorem bl  {P0 P1:Prop}{G:Prop}(h:P0/\P1) (c:P0->P1->G):G:=c h.1 h.2
theorem fi  {P0 P1 P2:Prop}{G:Prop}(h:P0/\P1/\P2) (c:P0->P1->P2->G):G:=c h.1 h.2.1 h.2.2
theorem ik  {P0 P1 P2 P3:Prop}{G:Prop}(h:P0/\P1/\P2/\P3) (c:P0->P1->P2->P3->G):G:=c h.1 h.2.1 h.2.2.1 h.2.2.2
theorem xA  {P0 P1 P2 P3 P4 P5:Prop}{G:Prop}(h:P0/\P1/\P2/\P3/\P4/\P5) (c:P0->P1->P2->P3->P4->P5->G):G:=c h.1 h.2.1 h.2.2.1 h.2.2.2.1 h.2.2.2.2.1 h.2.2.2.2.2
theorem be {α0:Sort _}{P0:α0->Prop}{G:Prop}(h:∃ (x0:α0),P0 x0) (c:∀ (x0:α0),P0 x0->G):G:=h.elim fun x0 q0=>c x0 q0
theorem aB {α0:Sort _}{P0 P1:α0->Prop}{G:Prop}(h:∃ (x0:α0),P0 x0/\P1 x0) (c:∀ (x0:α0),P0 x0->P1 x0->G):G:=h.elim fun x0 q0=>c x0 q0.1 q0.2
theorem bH {α0:Sort _}{P0 P1 P2:α0->Prop}{G:Prop}(h:∃ (x0:α0),P0 x0/\P1 x0/\P2 x0) (c:∀ (x0:α0),P0 x0->P1 x0->P2 x0->G):G:=h.elim fun x0 q0=>c x0 q0.1 q0.2.1 q0.2.2
theorem ij {α0:Sort _}{P0 P1 P2 P3:α0->Prop}{G:Prop}(h:∃ (x0:α0),P0 x0/\P1 x0/\P2 x0/\P3 x0) (c:∀ (x0:α0),P0 x0->P1 x0->P2 x0->P3 x0->G):G:=h.elim fun x0 q0=>c x0 q0.1 q0.2.1 q0.2.2.1 q0.2.2.2
theorem C3 {α0:Sort _}{P0 P1 P2 P3 P4:α0->Prop}{G:Prop}(h:∃ (x0:α0),P0 x0/\P1 x0/\P2 x0/\P3 x0/\P4 x0) (c:∀ (x0:α0),P0 x0->P1 x0->P2 x0->P3 x0->P4 x0->G):G:=h.elim fun x0 q0=>c x0 q0.1 q0.2.1 q0.2.2.1 q0.2.2.2.1 q0.2.2.2.2
theorem rV {α0:Sort _}{α1:Sort _}{P0:α0->α1->Prop}{G:Prop}(h:∃ (x0:α0) (x1:α1),P0 x0 x1) (c:∀ (x0:α0) (x1:α1),P0 x0 x1->G):G:=h.elim fun x0 q0=>q0.elim fun x1 q1=>c x0 x1 q1
theorem bQ {α0:Sort _}{α1:Sort _}{P0 P1:α0->α1->Prop}{G:Prop}(h:∃ (x0:α0) (x1:α1),P0 x0 x1/\P1 x0 x1) (c:∀ (x0:α0) (x1:α1),P0 x0 x1->P1 x0 x1->G):G:=h.elim fun x0 q0=>q0.elim fun x1 q1=>c x0 x1 q1.1 q1.2
theorem bG {α0:Sort _}{α1:Sort _}{P0 P1 P2:α0->α1->Prop}{G:Prop}(h:∃ (x0:α0) (x1:α1),P0 x0 x1/\P1 x0 x1/\P2 x0 x1) (c:∀ (x0:α0) (x1:α1),P0 x0 x1->P1 x0 x1->P2 x0 x1->G):G:=h.elim fun x0 q0=>q0.elim fun x1 q1=>c x0 x1 q1.1 q1.2.1 q1.2.2
theorem bK {α0:Sort _}{α1:Sort _}{P0 P1 P2 P3:α0->α1->Prop}{G:Prop}(h:∃ (x0:α0) (x1:α1),P0 x0 x1/\P1 x0 x1/\P2 x0 x1/\P3 x0 x1) (c:∀ (x0:α0) (x1:α1),P0 x0 x1->P1 x0 x1->P2 x0 x1->P3 x0 x1->G):G:=h.elim fun x0 q0=>q0.elim fun x1 q1=>c x0 x1 q1.1 q1.2.1 q1.2.2.1 q1.2.2.2
theorem eA {α0:Sort _}{α1:Sort _}{P0 P1 P2 P3 P4:α0->α1->Prop}{G:Prop}(h:∃ (x0:α0) (x1:α1),P0 x0 x1/\P1 x0 x1/\P2 x0 x1/\P3 x0 x1/\P4 x0 x1) (c:∀ (x0:α0) (x1:α1),P0 x0 x1->P1 x0 x1->P2 x0 x1->P3 x0 x1->P4 x0 x1->G):G:=h.elim fun x0 q0=>q0.elim fun x1 q1=>c x0 x1 q1.1 q1.2.1 q1.2.2.1 q1.2.2.2.1 q1.2.2.2.2
theorem iU {α0:Sort _}{α1:Sort _}{P0 P1 P2 P3 P4 P5:α0->α1->Prop}{G:Prop}(h:∃ (x0:α0) (x1:α1),P0 x0 x1/\P1 x0 x1/\P2 x0 x1/\P3 x0 x1/\P4 x0 x1/\P5 x0 x1) (c:∀ (x0:α0) (x1:α1),P0 x0 x1->P1 x0 x1->P2 x0 x1->P3 x0 x1->P4 x0 x1->P5 x0 x1->G):G:=h.elim fun x0 q0=>q0.elim fun x1 q1=>c x0 x1 q1.1 q1.2.1 q1.2.2.1 q1.2.2.2.1 q1.2.2.2.2.1 q1.2.2.2.2.2
theorem xy {α0:Sort _}{α1:Sort _}{α2:Sort _}{P0:α0->α1->α2->Prop}{G:Prop}(h:∃ (x0:α0) (x1:α1) (x2:α2),P0 x0 x1 x2) (c:∀ (x0:α0) (x1:α1) (x2:α2),P0 x0 x1 x2->G):G:=h.elim fun x0 q0=>q0.elim fun x1 q1=>q1.elim fun x2 q2=>c x0 x1 x2 q2
theorem cp {α0:Sort _}{α1:Sort _}{α2:Sort _}{P0 P1:α0->α1->α2->Prop}{G:Prop}(h:∃ (x0:α0) (x1:α1) (x2:α2),P0 x0 x1 x2/\P1 x0 x1 x2) (c:∀ (x0:α0) (x1:α1) (x2:α2),P0 x0 x1 x2->P1 x0 x1 x2->G):G:=h.elim fun x0 q0=>q0.elim fun x1 q1=>q1.elim fun x2 q2=>c x0 x1 x2 q2.1 q2.2
theorem dm {α0:Sort _}{α1:Sort _}{α2:Sort _}{P0 P1 P2:α0->α1->α2->Prop}{G:Prop}(h:∃ (x0:α0) (x1:α1) (x2:α2),P0 x0 x1 x2/\P1 x0 x1 x2/\P2 x0 x1 x2) (c:∀ (x0:α0) (x1:α1) (x2:α2),P0 x0 x1 x2->P1 x0 x1 x2->P2 x0 x1 x2->G):G:=h.elim fun x0 q0=>q0.elim fun x1 q1=>q1.elim fun x2 q2=>c x0 x1 x2 q2.1 q2.2.1 q2.2.2
theorem cM {α0:Sort _}{α1:Sort _}{α2:Sort _}{P0 P1 P2 P3:α0->α1->α2->Prop}{G:Prop}(h:∃ (x0:α0) (x1:α1) (x2:α2),P0 x0 x1 x2/\P1 x0 x1 x2/\P2 x0 x1 x2/\P3 x0 x1 x2) (c:∀ (x0:α0) (x1:α1) (x2:α2),P0 x0 x1 x2->P1 x0 x1 x2->P2 x0 x1 x2->P3 x0 x1 x2->G):G:=h.elim fun x0 q0=>q0.elim fun x1 q1=>q1.elim fun x2 q2=>c x0 x1 x2 q2.1 q2.2.1 q2.2.2.1 q2.2.2.2
theorem fX {α0:Sort _}{α1:Sort _}{α2:Sort _}{P0 P1 P2 P3 P4:α0->α1->α2->Prop}{G:Prop}(h:∃ (x0:α0) (x1:α1) (x2:α2),P0 x0 x1 x2/\P1 x0 x1 x2/\P2 x0 x1 x2/\P3 x0 x1 x2/\P4 x0 x1 x2) (c:∀ (x0:α0) (x1:α1) (x2:α2),P0 x0 x1 x2->P1 x0 x1 x2->P2 x0 x1 x2->P3 x0 x1 x2->P4 x0 x1 x2->G):G:=h.elim fun x0 q0=>q0.elim fun x1 q1=>q1.elim fun x2 q2=>c x0 x1 x2 q2.1 q2.2.1 q2.2.2.1 q2.2.2.2.1 q2.2.2.2.2
theorem oO {α0:Sort _}{α1:Sort _}{α2:Sort _}{α3:Sort _}{P0 P1:α0->α1->α2->α3->Prop}{G:Prop}(h:∃ (x0:α0) (x1:α1) (x2:α2) (x3:α3),P0 x0 x1 x2 x3/\P1 x0 x1 x2 x3) (c:∀ (x0:α0) (x1:α1) (x2:α2) (x3:α3),P0 x0 x1 x2 x3->P1 x0 x1 x2 x3->G):G:=h.elim fun x0 q0=>q0.elim fun x1 q1=>q1.elim fun x2 q2=>q2.elim fun x3 q3=>c x0 x1 x2 x3 q3.1 q3.2
theorem eO {α0:Sort _}{α1:Sort _}{α2:Sort _}{α3:Sort _}{P0 P1 P2:α0->α1->α2->α3->Prop}{G:Prop}(h:∃ (x0:α0) (x1:α1) (x2:α2) (x3:α3),P0 x0 x1 x2 x3/\P1 x0 x1 x2 x3/\P2 x0 x1 x2 x3) (c:∀ (x0:α0) (x1:α1) (x2:α2) (x3:α3),P0 x0 x1 x2 x3->P1 x0 x1 x2 x3->P2 x0 x1 x2 x3->G):G:=h.elim fun x0 q0=>q0.elim fun x1 q1=>q1.elim fun x2 q2=>q2.elim fun x3 q3=>c x0 x1 x2 x3 q3.1 q3.2.1 q3.2.2
theorem j2 {α0:Sort _}{α1:Sort _}{α2:Sort _}{α3:Sort _}{P0 P1 P2 P3 P4 P5:α0->α1->α2->α3->Prop}{G:Prop}(h:∃ (x0:α0) (x1:α1) (x2:α2) (x3:α3),P0 x0 x1 x2 x3/\P1 x0 x1 x2 x3/\P2 x0 x1 x2 x3/\P3 x0 x1 x2 x3/\P4 x0 x1 x2 x3/\P5 x0 x1 x2 x3) (c:∀ (x0:α0) (x1:α1) (x2:α2) (x3:α3),P0 x0 x1 x2 x3->P1 x0 x1 x2 x3->P2 x0 x1 x2 x3->P3 x0 x1 x2 x3->P4 x0 x1 x2 x3->P5 x0 x1 x2 x3->G):G:=h.elim fun x0 q0=>q0.elim fun x1 q1=>q1.elim fun x2 q2=>q2.elim fun x3 q3=>c x0 x1 x2 x3 q3.1 q3.2.1 q3.2.2.1 q3.2.2.2.1 q3.2.2.2.2.1 q3.2.2.2.2.2
theorem C1 {α0:Sort _}{α1:Sort _}{α2:Sort _}{α3:Sort _}{α4:Sort _}{P0 P1 P2 P3 P4 P5:α0->α1->α2->α3->α4->Prop}{G:Prop}(h:∃ (x0:α0) (x1:α1) (x2:α2) (x3:α3) (x4:α4),P0 x0 x1 x2 x3 x4/\P1 x0 x1 x2 x3 x4/\P2 x0 x1 x2 x3 x4/\P3 x0 x1 x2 x3 x4/\P4 x0 x1 x2 x3 x4/\P5 x0 x1 x2 x3 x4) (c:∀ (x0:α0) (x1:α1) (x2:α2) (x3:α3) (x4:α4),P0 x0 x1 x2 x3 x4->P1 x0 x1 x2 x3 x4->P2 x0 x1 x2 x3 x4->P3 x0 x1 x2 x3 x4->P4 x0 x1 x2 x3 x4->P5 x0 x1 x2 x3 x4->G):G:=h.elim fun x0 q0=>q0.elim fun x1 q1=>q1.elim fun x2 q2=>q2.elim fun x3 q3=>q3.elim fun x4 q4=>c x0 x1 x2 x3 x4 q4.1 q4.2.1 q4.2.2.1 q4.2.2.2.1 q4.2.2.2.2.1 q4.2.2.2.2.2
theorem oN {α0:Sort _}{α1:Sort _}{α2:Sort _}{α3:Sort _}{α4:Sort _}{P0 P1 P2 P3 P4 P5 P6:α0->α1->α2->α3->α4->Prop}{G:Prop}(h:∃ (x0:α0) (x1:α1) (x2:α2) (x3:α3) (x4:α4),P0 x0 x1 x2 x3 x4/\P1 x0 x1 x2 x3 x4/\P2 x0 x1 x2 x3 x4/\P3 x0 x1 x2 x3 x4/\P4 x0 x1 x2 x3 x4/\P5 x0 x1 x2 x3 x4/\P6 x0 x1 x2 x3 x4) (c:∀ (x0:α0) (x1:α1) (x2:α2) (x3:α3) (x4:α4),P0 x0 x1 x2 x3 x4->P1 x0 x1 x2 x3 x4->P2 x0 x1 x2 x3 x4->P3 x0 x1 x2 x3 x4->P4 x0 x1 x2 x3 x4->P5 x0 x1 x2 x3 x4->P6 x0 x1 x2 x3 x4->G):G:=h.elim fun x0 q0=>q0.elim fun x1 q1=>q1.elim fun x2 q2=>q2.elim fun x3 q3=>q3.elim fun x4 q4=>c x0 x1 x2 x3 x4 q4.1 q4.2.1 q4.2.2.1 q4.2.2.2.1 q4.2.2.2.2.1 q4.2.2.2.2.2.1 q4.2.2.2.2.2.2
theorem xz {α0:Sort _}{P0 P1 P2 P3 P4 P5:α0->Prop}{G:Prop}(h:∃ (x0:α0),P0 x0/\P1 x0/\P2 x0/\P3 x0/\P4 x0/\P5 x0) (c:∀ (x0:α0),P0 x0->P1 x0->P2 x0->P3 x0->P4 x0->P5 x0->G):G:=h.elim fun x0 q0=>c x0 q0.1 q0.2.1 q0.2.2.1 q0.2.2.2.1 q0.2.2.2.2.1 q0.2.2.2.2.2
theorem oP {α0:Sort _}{α1:Sort _}{P0 P1 P2 P3 P4 P5 P6:α0->α1->Prop}{G:Prop}(h:∃ (x0:α0) (x1:α1),P0 x0 x1/\P1 x0 x1/\P2 x0 x1/\P3 x0 x1/\P4 x0 x1/\P5 x0 x1/\P6 x0 x1) (c:∀ (x0:α0) (x1:α1),P0 x0 x1->P1 x0 x1->P2 x0 x1->P3 x0 x1->P4 x0 x1->P5 x0 x1->P6 x0 x1->G):G:=h.elim fun x0 q0=>q0.elim fun x1 q1=>c x0 x1 q1.1 q1.2.1 q1.2.2.1 q1.2.2.2.1 q1.2.2.2.2.1 q1.2.2.2.2.2.1 q1.2.2.2.2.2.2
theorem rU {α0:Sort _}{α1:Sort _}{α2:Sort _}{P0 P1 P2 P3 P4 P5:α0->α1->α2->Prop}{G:Prop}(h:∃ (x0:α0) (x1:α1) (x2:α2),P0 x0 x1 x2/\P1 x0 x1 x2/\P2 x0 x1 x2/\P3 x0 x1 x2/\P4 x0 x1 x2/\P5 x0 x1 x2) (c:∀ (x0:α0) (x1:α1) (x2:α2),P0 x0 x1 x2->P1 x0 x1 x2->P2 x0 x1 x2->P3 x0 x1 x2->P4 x0 x1 x2->P5 x0 x1 x2->G):G:=h.elim fun x0 q0=>q0.elim fun x1 q1=>q1.elim fun x2 q2=>c x0 x1 x2 q2.1 q2.2.1 q2.2.2.1 q2.2.2.2.1 q2.2.2.2.2.1 q2.2.2.2.2.2
theorem xx {α0:Sort _}{α1:Sort _}{α2:Sort _}{α3:Sort _}{P0 P1 P2 P3 P4:α0->α1->α2->α3->Prop}{G:Prop}(h:∃ (x0:α0) (x1:α1) (x2:α2) (x3:α3),P0 x0 x1 x2 x3/\P1 x0 x1 x2 x3/\P2 x0 x1 x2 x3/\P3 x0 x1 x2 x3/\P4 x0 x1 x2 x3) (c:∀ (x0:α0) (x1:α1) (x2:α2) (x3:α3),P0 x0 x1 x2 x3->P1 x0 x1 x2 x3->P2 x0 x1 x2 x3->P3 x0 x1 x2 x3->P4 x0 x1 x2 x3->G):G:=h.elim fun x0 q0=>q0.elim fun x1 q1=>q1.elim fun x2 q2=>q2.elim fun x3 q3=>c x0 x1 x2 x3 q3.1 q3.2.1 q3.2.2.1 q3.2.2.2.1 q3.2.2.2.2
theorem C2 {α0:Sort _}{α1:Sort _}{α2:Sort _}{α3:Sort _}{P0 P1 P2 P3 P4 P5 P6:α0->α1->α2->α3->Prop}{G:Prop}(h:∃ (x0:α0) (x1:α1) (x2:α2) (x3:α3),P0 x0 x1 x2 x3/\P1 x0 x1 x2 x3/\P2 x0 x1 x2 x3/\P3 x0 x1 x2 x3/\P4 x0 x1 x2 x3/\P5 x0 x1 x2 x3/\P6 x0 x1 x2 x3) (c:∀ (x0:α0) (x1:α1) (x2:α2) (x3:α3),P0 x0 x1 x2 x3->P1 x0 x1 x2 x3->P2 x0 x1 x2 x3->P3 x0 x1 x2 x3->P4 x0 x1 x2 x3->P5 x0 x1 x2 x3->P6 x0 x1 x2 x3->G):G:=h.elim fun x0 q0=>q0.elim fun x1 q1=>q1.elim fun x2 q2=>q2.elim fun x3 q3=>c x0 x1 x2 x3 q3.1 q3.2.1 q3.2.2.1 q3.2.2.2.1 q3.2.2.2.2.1 q3.2.2.2.2.2.1 q3.2.2.2.2.2.2
theorem dv {α β:Type}{o:Option α}{f:α->Option β}{r:β}{G:Prop}(h:o.bind f=some r) (k:∀ a,o=some a->f a=some r->G):G:=by
 induction o using Oy with
 | none=>exact aw h
 | some a=>exact k a rfl h
theorem bA {α γ β:Type}{o:Option (α×γ)}{f:α×γ->Option β}{r:β}{G:Prop}(h:o.bind f=some r) (k:∀ a b,o=some (a,b)->f (a,b)=some r->G):G:=dv h fun a h1 h2=>k a.1 a.2 h1 h2
theorem eu {α β:Type}{o:Option α}{f:α->β}{r:β}{G:Prop}(h:o.map f=some r) (k:∀ a,o=some a->f a=r->G):G:=by
 induction o using Oy with
 | none=>exact aw h
 | some a=>exact k a rfl (aq h)
theorem f8 {α γ β:Type}{o:Option (α×γ)}{f:α×γ->β}{r:β}{G:Prop}(h:o.map f=some r) (k:∀ a b,o=some (a,b)->f (a,b)=r->G):G:=eu h fun a h1 h2=>k a.1 a.2 h1 h2
theorem bR {α:Type}{p:Prop} [Decidable p] {a:Option α}{r:α}{G:Prop}(h:(if p then a else none)=some r) (k:p->a=some r->G):G:=by
 by_cases q:p
 ·exact k q ((if_pos q).symm.trans h)
 ·rw [if_neg q] at h;exact aw h
theorem ju {α:Type}{p:Prop} [Decidable p] {a b r:α}{G:Prop}(h:(if p then a else b)=r) (k1:p->a=r->G) (k2:¬p->b=r->G):G:=if q:p then k1 q ((if_pos q).symm.trans h) else k2 q ((if_neg q).symm.trans h)
theorem bF {a b:Bool}(h:(a&&b)=true):a=true/\b=true:=ay.mp h
theorem iY {a b c:Bool}(h:(a&&b&&c)=true):a=true/\b=true/\c=true:=⟨(bF (bF h).1).1,(bF (bF h).1).2,(bF h).2⟩
theorem z8 {a b c d:Bool}(h:(a&&b&&c&&d)=true):a=true/\b=true/\c=true/\d=true:=⟨(iY (bF h).1).1,(iY (bF h).1).2.1,(iY (bF h).1).2.2,(bF h).2⟩
end Mine
end
section
open PySem PySem.W PyProof.Rows
set_option maxRecDepth 100000
set_option tactic.hygienic false
namespace Mine
noncomputable abbrev Mu:=List (Addr×Bool)
noncomputable def eD (μ:Mu) (a:Addr):Prop:=(a,true)∈μ
noncomputable def dY (X:Addr->Prop) (μ:Mu) (a:Addr):Prop:=eD μ a\/X a
mutual
inductive bh (X:Addr->Prop) (μ:Mu) (h:Heap):V->Value->Prop
 | none:bh X μ h .none .none
 | bool (b:Bool):bh X μ h (.bool b) (.bool b)
 | int (i:Int) (t:Tok):bh X μ h (.int i) (.int i t)
 | str (x:Str) (t:Tok):bh X μ h (.str x) (.str x t)
 | tup {a:Addr}{vs:List Value}{n:Nat}{l:List V}:¬dY X μ a->IsT h a vs.toArray n->aG X μ h l vs->bh X μ h (.tup l) (.ref a)
 | lst {a:Addr}{vs:List Value}{n:Nat}{l:List V}:¬dY X μ a->IsL h a vs.toArray n->aG X μ h l vs->bh X μ h (.lst l) (.ref a)
 | rng {a:Addr}{i j:Int}{t u v:Tok}:¬dY X μ a->IsRange h a i j 1 t u v->bh X μ h (.rng i j) (.ref a)
 | own {k:Nat}{a:Addr}{b:Bool}:μ[k]?=some (a,b)->bh X μ h (.own k) (.ref a)
 | raw (v:Value):bh X μ h (.raw v) v
inductive aG (X:Addr->Prop) (μ:Mu) (h:Heap):List V->List Value->Prop
 | nil:aG X μ h [] []
 | cons {d:V}{v:Value}{ds:List V}{vs:List Value}:bh X μ h d v->aG X μ h ds vs->aG X μ h (d::ds) (v::vs)
end
structure fc (μ μ':Mu) (h:Heap):Prop where
 ext:∀ (k:Nat) a b,μ[k]?=some (a,b)->∃ b',μ'[k]?=some (a,b')
 new:∀ a,eD μ' a->eD μ a\/h.get? a=none
theorem fc.refl (μ:Mu) (h:Heap):fc μ μ h:=⟨fun ζ ζ b e=>⟨b,e⟩,fun ζ h=>.inl h⟩
theorem mD {X X':Addr->Prop}{μ μ':Mu}{h:Heap}(hx:fc μ μ' h) (hX:∀ a,X' a->X a\/h.get? a=none) (a:Addr) (q:dY X' μ' a):dY X μ a\/h.get? a=none:=q.elim (fun l=>(hx.new a l).imp .inl id) fun x=>(hX a x).imp .inr id
theorem bh.mono' {X X':Addr->Prop}{μ μ':Mu}{h h':Heap}(hk:∀ a o,¬dY X μ a->h.get? a=some o->h'.get? a=some o) (hx:∀ (k:Nat) a b,μ[k]?=some (a,b)->∃ b',μ'[k]?=some (a,b')) (hB:∀ a,dY X' μ' a->dY X μ a\/h.get? a=Option.none) {d:V}{v:Value}(r:bh X μ h d v):bh X' μ' h' d v :=
 have no:∀ {a o},¬dY X μ a->h.get? a=some o->¬dY X' μ' a:=fun nb e q=>(hB _ q).elim nb fun q=>aw (q.symm.trans e)
 bh.rec (motive_1:=fun d v ζ=>bh X' μ' h' d v) (motive_2:=fun d v ζ=>aG X' μ' h' d v) .none .bool .int .str (fun nb e ζ i=>.tup (no nb e) (hk _ _ nb e) i) (fun nb e ζ i=>.lst (no nb e) (hk _ _ nb e) i)
  (fun nb e=>.rng (no nb e) (hk _ _ nb e)) (fun e=>(hx _ _ _ e).elim fun ζ e=>.own e) .raw .nil (fun ζ ζ a b=>.cons a b) r
theorem bh.mono {X X':Addr->Prop}{μ μ':Mu}{h h':Heap}(hk:∀ a o,¬dY X μ a->h.get? a=some o->h'.get? a=some o) (hx:fc μ μ' h) (hX:∀ a,X' a->X a\/h.get? a=Option.none) {d:V}{v:Value}(r:bh X μ h d v):bh X' μ' h' d v:=r.mono' hk hx.ext (mD hx hX)
@[elab_as_elim] theorem aG.ind {X:Addr->Prop}{μ:Mu}{h:Heap}{P:List V->List Value->Prop}{ds:List V}{vs:List Value}(r:aG X μ h ds vs) (n:P [] [])
  (c:∀ d v ds vs,bh X μ h d v->aG X μ h ds vs->P ds vs->P (d::ds) (v::vs)):P ds vs :=
 aG.rec (motive_1:=fun ζ ζ ζ=>True) (motive_2:=fun d v ζ=>P d v) trivial (fun ζ=>trivial) (fun ζ ζ=>trivial) (fun ζ ζ=>trivial) (fun ζ ζ ζ ζ=>trivial) (fun ζ ζ ζ ζ=>trivial) (fun ζ ζ=>trivial) (fun ζ=>trivial) (fun ζ=>trivial)
  n (fun a b ζ i=>c _ _ _ _ a b i) r
theorem aG.mono' {X X':Addr->Prop}{μ μ':Mu}{h h':Heap}(hk:∀ a o,¬dY X μ a->h.get? a=some o->h'.get? a=some o) (hx:∀ (k:Nat) a b,μ[k]?=some (a,b)->∃ b',μ'[k]?=some (a,b')) (hB:∀ a,dY X' μ' a->dY X μ a\/h.get? a=Option.none) {ds:List V}{vs:List Value}(r:aG X μ h ds vs):aG X' μ' h' ds vs:=aG.ind r .nil fun ζ ζ ζ ζ a ζ i=>.cons (a.mono' hk hx hB) i
theorem aG.mono {X X':Addr->Prop}{μ μ':Mu}{h h':Heap}(hk:∀ a o,¬dY X μ a->h.get? a=some o->h'.get? a=some o) (hx:fc μ μ' h) (hX:∀ a,X' a->X a\/h.get? a=Option.none) {ds:List V}{vs:List Value}(r:aG X μ h ds vs):aG X' μ' h' ds vs:=r.mono' hk hx.ext (mD hx hX)
section
variable {X:Addr->Prop}{μ:Mu}{h:Heap}
theorem aG.length {ds:List V}{vs:List Value}(r:aG X μ h ds vs):vs.length=ds.length:=aG.ind r rfl fun ζ ζ ζ ζ ζ ζ i=>congrArg Nat.succ i
theorem aG.append {ds es:List V}{vs ws:List Value}(r:aG X μ h ds vs) (q:aG X μ h es ws):aG X μ h (ds++es) (vs++ws):=aG.ind r q fun ζ ζ ζ ζ a ζ i=>.cons a i
theorem aG.get0 {ds:List V}{vs:List Value}(r:aG X μ h ds vs):∀ (k:Nat) d,ds[k]?=some d->∃ v,vs[k]?=some v/\bh X μ h d v :=
 aG.ind r (fun ζ ζ e=>aw e) fun ζ v ζ ζ a ζ i k=>Nat.casesOn k (fun ζ e=>bp e ⟨v,rfl,a⟩) i
theorem aG.get {ds:List V}{vs:List Value}(r:aG X μ h ds vs) {k:Nat}{d:V}(e:ds[k]?=some d):∃ v,vs[k]?=some v/\bh X μ h d v:=r.get0 k d e
theorem aG.getV0 {ds:List V}{vs:List Value}(r:aG X μ h ds vs):∀ (k:Nat) v,vs[k]?=some v->∃ d,ds[k]?=some d/\bh X μ h d v :=
 aG.ind r (fun ζ ζ e=>aw e) fun d ζ ζ ζ a ζ i k=>Nat.casesOn k (fun ζ e=>bp e ⟨d,rfl,a⟩) i
theorem aG.getV {ds:List V}{vs:List Value}(r:aG X μ h ds vs) {k:Nat}{v:Value}(e:vs[k]?=some v):∃ d,ds[k]?=some d/\bh X μ h d v:=r.getV0 k v e
theorem aG.set0 {ds:List V}{vs:List Value}(r:aG X μ h ds vs) {d:V}{v:Value}(q:bh X μ h d v):∀ k,aG X μ h (ds.set k d) (vs.set k v) :=
 aG.ind r (fun ζ=>.nil) fun ζ ζ ζ ζ a r i k=>Nat.casesOn k (.cons q r) fun k=>.cons a (i k)
theorem aG.set {ds:List V}{vs:List Value}(r:aG X μ h ds vs) {k:Nat}{d:V}{v:Value}(q:bh X μ h d v):aG X μ h (ds.set k d) (vs.set k v):=r.set0 q k
theorem aG.take {ds:List V}{vs:List Value}(r:aG X μ h ds vs):∀ k,aG X μ h (ds.take k) (vs.take k) :=
 aG.ind r (fun k=>by refine aa (List.take_nil ..) (aa (List.take_nil ..) ?_);exact .nil) fun ζ ζ ζ ζ a ζ i k=>Nat.casesOn k .nil fun k=>.cons a (i k)
end
inductive fk (P:Params) (X:Addr->Prop) (μ:Mu) (h:Heap):List (Str×V)->List DictEntry->Prop
 | nil:fk P X μ h [] []
 | cons {x:Str}{d:V}{v:Value}{t:Tok}{fs:List (Str×V)}{es:List DictEntry}:eX d=false->bh X μ h d v->fk P X μ h fs es->fk P X μ h ((x,d)::fs) (⟨PyData.keyHash P x,.str x t,v⟩::es)
theorem fk.mono' {P:Params}{X X':Addr->Prop}{μ μ':Mu}{h h':Heap}(hk:∀ a o,¬dY X μ a->h.get? a=some o->h'.get? a=some o) (hx:∀ (k:Nat) a b,μ[k]?=some (a,b)->∃ b',μ'[k]?=some (a,b')) (hB:∀ a,dY X' μ' a->dY X μ a\/h.get? a=Option.none) {fs:List (Str×V)}{es:List DictEntry}(r:fk P X μ h fs es):fk P X' μ' h' fs es:=fk.rec .nil (fun q r ζ i=>.cons q (r.mono' hk hx hB) i) r
theorem fk.mono {P:Params}{X X':Addr->Prop}{μ μ':Mu}{h h':Heap}(hk:∀ a o,¬dY X μ a->h.get? a=some o->h'.get? a=some o) (hx:fc μ μ' h) (hX:∀ a,X' a->X a\/h.get? a=Option.none) {fs:List (Str×V)}{es:List DictEntry}(r:fk P X μ h fs es):fk P X' μ' h' fs es:=r.mono' hk hx.ext (mD hx hX)
inductive ka (X:Addr->Prop) (μ:Mu) (h:Heap):List (Str×V)->List (Str×Value)->Prop
 | nil:ka X μ h [] []
 | cons {x:Str}{d:V}{v:Value}{fs:List (Str×V)}{es:List (Str×Value)}:bh X μ h d v->ka X μ h fs es->ka X μ h ((x,d)::fs) ((x,v)::es)
theorem ka.mono' {X X':Addr->Prop}{μ μ':Mu}{h h':Heap}(hk:∀ a o,¬dY X μ a->h.get? a=some o->h'.get? a=some o) (hx:∀ (k:Nat) a b,μ[k]?=some (a,b)->∃ b',μ'[k]?=some (a,b')) (hB:∀ a,dY X' μ' a->dY X μ a\/h.get? a=Option.none) {fs:List (Str×V)}{es:List (Str×Value)}(r:ka X μ h fs es):ka X' μ' h' fs es:=ka.rec .nil (fun r ζ i=>.cons (r.mono' hk hx hB) i) r
theorem ka.mono {X X':Addr->Prop}{μ μ':Mu}{h h':Heap}(hk:∀ a o,¬dY X μ a->h.get? a=some o->h'.get? a=some o) (hx:fc μ μ' h) (hX:∀ a,X' a->X a\/h.get? a=Option.none) {fs:List (Str×V)}{es:List (Str×Value)}(r:ka X μ h fs es):ka X' μ' h' fs es:=r.mono' hk hx.ext (mD hx hX)
section
variable (prog:Program) (w:World) (X:Addr->Prop) (μ:Mu) (h:Heap)
noncomputable def cx (a:Addr):Cell->Prop
 | .lst l=>∃ vs n,IsL h a vs.toArray n/\aG X μ h l vs
 | .inst C d=>∃ dx,h.get? a=some (instObj C dx)/\∃ b,μ[d]?=some (dx,b)
 | .attrs fs=>∃ es n,h.get? a=some (dictOf es n)/\fk w.params X μ h fs es/\fs.length<=500
 | .sdct fs=>∃ kvs,h.DictOf (strKind prog w) a kvs/\ka X μ h fs kvs/\fs.length<=500
 | .idct n=>∃ kvs,h.DictOf (intKind prog w) a kvs/\kvs.length<=n
 | .dead=>True
structure aS (base:Heap) (Z:ag):Prop where
 len:μ.length=Z.length
 cell:∀ (k:Nat) c,Z[k]?=some c->c=.dead\/∃ a,μ[k]?=some (a,true)/\cx prog w X μ h a c
 inj:∀ (j k:Nat) a,μ[j]?=some (a,true)->μ[k]?=some (a,true)->j=k
 stays:∀ a o,base.get? a=some o->h.get? a=some o
 apart:∀ a,dY X μ a->base.get? a=none
 here:∀ a,dY X μ a->(h.get? a).isSome=true
 off:∀ a,eD μ a->¬X a
end
structure Stp (W:Addr->Prop) (μ μ':Mu) (s s':Shared):Prop where
 same:∃ h' tk,s'={ s with heap:=h',toks:=tk }
 keep:∀ a o,¬eD μ a->¬W a->s.heap.get? a=some o->s'.heap.get? a=some o
 there:∀ a,(s.heap.get? a).isSome=true->(s'.heap.get? a).isSome=true
 ext:fc μ μ' s.heap
noncomputable abbrev No:Addr->Prop:=fun ζ=>False
theorem Stp.refl (W:Addr->Prop) (μ:Mu) (s:Shared):Stp W μ μ s s:=⟨⟨s.heap,s.toks,rfl⟩,fun ζ ζ ζ ζ e=>e,fun ζ e=>e,fc.refl _ _⟩
theorem Stp.trans {W:Addr->Prop}{μ μ1 μ2:Mu}{s sa sb:Shared}(p:Stp W μ μ1 s sa) (q:Stp W μ1 μ2 sa sb):Stp W μ μ2 s sb:=by
 obtain ⟨⟨h1,t1,rfl⟩,k1,p1,e1⟩:=p;obtain ⟨⟨h2,t2,rfl⟩,k2,p2,e2⟩:=q;refine ⟨⟨h2,t2,rfl⟩,fun a o nl nw e=>?_,fun a e=>p2 a (p1 a e),fun k a b e=>?_,fun a l=>?_⟩
 ·refine k2 a o (fun l=>?_) nw (k1 a o nl nw e);rcases e1.new a l with l | l
  ·exact nl l
  ·rw [e] at l;exact gQ l
 ·refine be (e1.ext k a b e) fun b' e'=>?_;exact e2.ext k a b' e'
 ·rcases e2.new a l with l | l
  ·exact e1.new a l
  ·induction e:s.heap.get? a using Oy with
   | none=>exact .inr rfl
   | some o =>
    have:=p1 a (by refine aa (e ..) ?_;rfl);rw [l] at this;exact aM this
theorem Stp.wide {W W':Addr->Prop}{μ μ':Mu}{s s':Shared}(p:Stp W μ μ' s s') (h:∀ a,W a->W' a):Stp W' μ μ' s s':=⟨p.same,fun a o nl nw e=>p.keep a o nl (fun q=>nw (h a q)) e,p.there,p.ext⟩
theorem Stp.of_keeps {W:Addr->Prop}{μ:Mu}{s:Shared}{h':Heap}{tk:Nat}(hk:∀ a o,s.heap.get? a=some o->h'.get? a=some o):Stp W μ μ s { s with heap:=h',toks:=tk } :=
 ⟨⟨h',tk,rfl⟩,fun a o ζ ζ e=>hk a o e,fun a e=>by refine be (ax.mp e) fun o e=>?_;refine aa (hk a o e ..) ?_;rfl,fc.refl _ _⟩
theorem Stp.of_same {W:Addr->Prop}{μ:Mu}{s:Shared}{h':Heap}{tk:Nat}{a:Addr}(hl:eD μ a\/W a) (hs:Heap.SameBut a s.heap h') (ht:(h'.get? a).isSome=true):Stp W μ μ s { s with heap:=h',toks:=tk } :=
 ⟨⟨h',tk,rfl⟩,fun b o nl nw e=>(hs.2 b (by rintro rfl;exact hl.elim nl nw)).trans e,fun b e=>by
  by_cases q:b=a
  ·subst q;exact ht
  ·show (h'.get? b).isSome=true;refine aa (hs.2 b q ..) ?_;exact e,fc.refl _ _⟩
section
variable {prog:Program}{w:World}{X:Addr->Prop}{μ μ':Mu}{h h':Heap}{base:Heap}{Z:ag}{W:Addr->Prop}{s s':Shared}
theorem bh.stp (p:Stp No μ μ' s s') {d:V}{v:Value}(r:bh X μ s.heap d v):bh X μ' s'.heap d v :=
 r.mono (fun a o nb e=>p.keep a o (fun l=>nb (.inl l)) (fun q=>q) e) p.ext fun ζ x=>.inl x
theorem aG.stp (p:Stp No μ μ' s s') {d:List V}{v:List Value}(r:aG X μ s.heap d v):aG X μ' s'.heap d v :=
 r.mono (fun a o nb e=>p.keep a o (fun l=>nb (.inl l)) (fun q=>q) e) p.ext fun ζ x=>.inl x
theorem bh.stpW (p:Stp W μ μ' s s') (hW:∀ a,W a->X a) {d:V}{v:Value}(r:bh X μ s.heap d v):bh X μ' s'.heap d v :=
 r.mono (fun a o nb e=>p.keep a o (fun l=>nb (.inl l)) (fun q=>nb (.inr (hW a q))) e) p.ext fun ζ x=>.inl x
theorem aG.stpW (p:Stp W μ μ' s s') (hW:∀ a,W a->X a) {d:List V}{v:List Value}(r:aG X μ s.heap d v):aG X μ' s'.heap d v :=
 r.mono (fun a o nb e=>p.keep a o (fun l=>nb (.inl l)) (fun q=>nb (.inr (hW a q))) e) p.ext fun ζ x=>.inl x
theorem cx.up {X':Addr->Prop}{a:Addr}{c:Cell}(hk:∀ a o,¬dY X μ a->h.get? a=some o->h'.get? a=some o) (hx:∀ (k:Nat) a b,μ[k]?=some (a,b)->∃ b',μ'[k]?=some (a,b')) (hB:∀ a,dY X' μ' a->dY X μ a\/h.get? a=none) (ha:∀ o,h.get? a=some o->h'.get? a=some o)
  (r:cx prog w X μ h a c):cx prog w X' μ' h' a c:=by
 induction c using Cell.casesOn with
 | lst l=>exact bQ r fun vs n h1 h2=>⟨vs,n,ha _ h1,h2.mono' hk hx hB⟩
 | inst C d=>exact aB r fun dx h1 h2=>⟨dx,ha _ h1,h2.elim fun b e=>hx _ _ _ e⟩
 | attrs fs=>exact bG r fun es n h1 h2 h3=>⟨es,n,ha _ h1,h2.mono' hk hx hB,h3⟩
 | sdct fs=>exact bH r fun kvs h1 h2 h3=>⟨kvs,h1.at fun o e=>ha o e,h2.mono' hk hx hB,h3⟩
 | idct n=>exact aB r fun kvs h1 h2=>⟨kvs,h1.at fun o e=>ha o e,h2⟩
 | dead=>trivial
theorem cx.mono {X':Addr->Prop}(hk:∀ a o,h.get? a=some o->¬X a->h'.get? a=some o) (hX:∀ a,X' a->X a\/h.get? a=none) {a:Addr}(ha:¬X a) {c:Cell}(r:cx prog w X μ h a c):cx prog w X' μ h' a c :=
 r.up (fun a o nb e=>hk a o e fun q=>nb (.inr q)) (fc.refl μ h).ext (mD (fc.refl _ _) hX) fun ζ e=>hk _ _ e ha
theorem cE {k:Nat}{a:Addr}(e:μ[k]?=some (a,true)):eD μ a:=List.mem_of_getElem? e
theorem tg {a:Addr}(l:eD μ a):∃ k:Nat,μ[k]?=some (a,true):=by
 obtain ⟨k,hk,e⟩:=List.mem_iff_getElem.mp l;exact ⟨k,by exact aa (au hk ..) (aa (e ..) rfl)⟩
theorem aS.grow {X':Addr->Prop}(H:aS prog w X μ h base Z) (hk:∀ a o,h.get? a=some o->¬X a->h'.get? a=some o) (ht:∀ a,(h.get? a).isSome=true->(h'.get? a).isSome=true)
  (hX:∀ a,X' a->X a\/(h.get? a=none/\(h'.get? a).isSome=true)):aS prog w X' μ h' base Z where
 len:=H.len
 cell:=fun k c e=>(H.cell k c e).imp id fun ⟨a,e1,r⟩=>⟨a,e1,r.mono hk (fun a x=>(hX a x).imp id (·.1)) (H.off a (cE e1))⟩
 inj:=H.inj
 stays:=fun a o e=>hk a o (H.stays a o e) fun x=>by have:=H.apart a (.inr x);rw [e] at this;exact gQ this
 apart:=fun a b=>b.elim (fun l=>H.apart a (.inl l)) fun x=>(hX a x).elim (fun x=>H.apart a (.inr x)) fun y=>by
  induction e:base.get? a using Oy with
  | none=>rfl
  | some o=>have:=H.stays a o e;rw [y.1] at this;exact aw this
 here:=fun a b=>b.elim (fun l=>ht a (H.here a (.inl l))) fun x=>(hX a x).elim (fun x=>ht a (H.here a (.inr x))) fun y=>y.2
 off:=fun a l x=>(hX a x).elim (H.off a l) fun y=>by have:=H.here a (.inl l);rw [y.1] at this;exact aM this
theorem bX (hk:∀ a o,h.get? a=some o->h'.get? a=some o) (a:Addr) (e:(h.get? a).isSome=true):(h'.get? a).isSome=true:=by
 refine be (ax.mp e) fun o e=>?_;refine aa (hk a o e ..) ?_;rfl
theorem aS.keeps (H:aS prog w X μ h base Z) (hk:∀ a o,h.get? a=some o->h'.get? a=some o):aS prog w X μ h' base Z :=
 H.grow (fun a o e ζ=>hk a o e) (bX hk) fun ζ x=>.inl x
theorem aS.fresh (H:aS prog w X μ h base Z):¬dY X μ h.objs.size:=fun b=>by
 refine be (ax.mp (H.here _ b)) fun o e=>?_;exact Nat.lt_irrefl _ (Heap.lt_size e)
theorem bP (h:Heap):h.get? h.objs.size=none:=by
 induction e:h.get? h.objs.size using Oy with
 | none=>rfl
 | some o=>exact absurd (Heap.lt_size e) (Nat.lt_irrefl _)
theorem aS.push (H:aS prog w X μ h base Z) (o:Obj):aS prog w X μ (h.push o) base Z:=H.keeps fun ζ ζ e=>ak _ e
theorem aS.add (H:aS prog w X μ h base Z) {a:Addr}{c:Cell}(hk:∀ a o,h.get? a=some o->h'.get? a=some o) (hn:h.get? a=none) (hs:(h'.get? a).isSome=true)
  (hc:cx prog w X (μ++[(a,true)]) h' a c):aS prog w X (μ++[(a,true)]) h' base (Z++[c])/\fc μ (μ++[(a,true)]) h:=by
 have hx:fc μ (μ++[(a,true)]) h:=⟨fun k b t e=>⟨t,by refine aa (ba (List.getElem?_eq_some_iff.mp e).1 ..) ?_;exact e⟩,fun b l=>by
  rcases aN.mp l with l | l
  ·exact .inl l
  ·cases an.mp l;exact .inr hn⟩
 have hnl:¬eD μ a:=fun l=>by have:=H.here a (.inl l);rw [hn] at this;exact aM this
 have hnx:¬X a:=fun l=>by have:=H.here a (.inr l);rw [hn] at this;exact aM this
 have up:∀ {k:Nat}{p:Addr×Bool},(μ++[(a,true)])[k]?=some p->(μ[k]?=some p)\/(k=μ.length/\p=(a,true)):=by
  intro k p e;rcases Nat.lt_trichotomy k μ.length with q | q | q
  ·rw [ba q] at e;exact .inl e
  ·subst q;simp at e;exact .inr ⟨rfl,e.symm⟩
  ·have:(μ++[(a,true)])[k]?=none:=List.getElem?_eq_none (by refine aa (ai ..) (aa (aE ..) ?_);exact El q);rw [this] at e;exact aw e
 refine ⟨⟨by refine aa (ai ..) (aa (ai ..) (aa (H.len ..) ?_));rfl,fun k c' e=>?_,fun j k b e1 e2=>?_,fun b o e=>hk b o (H.stays b o e),fun b q=>?_,fun b q=>?_,fun b l x=>?_⟩,hx⟩
 ·rcases Nat.lt_trichotomy k Z.length with q | q | q
  ·rw [ba q] at e;refine (H.cell k c' e).imp id fun ⟨b,e1,r⟩=>⟨b,by refine aa (ba (by rw [H.len];exact q) ..) ?_;exact e1,?_⟩;exact r.up (fun a' o ζ e=>hk a' o e) hx.ext (mD hx fun ζ x=>.inl x) fun o e=>hk _ o e
  ·subst q;simp at e;subst e;exact .inr ⟨a,by refine aa (aH (H.len ..)) ?_;simp,hc⟩
  ·have:(Z++[c])[k]?=none:=List.getElem?_eq_none (by refine aa (ai ..) (aa (aE ..) ?_);exact El q);rw [this] at e;exact aw e
 ·rcases up e1 with q1 | ⟨q1,r1⟩<;>rcases up e2 with q2 | ⟨q2,r2⟩
  ·exact H.inj j k b q1 q2
  ·cases r2;exact absurd (cE q1) hnl
  ·cases r1;exact absurd (cE q2) hnl
  ·exact aa (q1 ..) (aa (q2 ..) rfl)
 ·rcases q with l | x
  ·rcases aN.mp l with l | l
   ·exact H.apart b (.inl l)
   ·cases an.mp l
    induction e:base.get? a using Oy with
    | none=>rfl
    | some o=>have:=H.stays a o e;rw [hn] at this;exact aw this
  ·exact H.apart b (.inr x)
 ·rcases q with l | x
  ·rcases aN.mp l with l | l
   ·exact bX hk b (H.here b (.inl l))
   ·cases an.mp l;exact hs
  ·exact bX hk b (H.here b (.inr x))
 ·rcases aN.mp l with l | l
  ·exact H.off b l x
  ·cases an.mp l;exact hnx x
theorem aS.turn (H:aS prog w X μ h base Z) {k:Nat}{a:Addr}{c:Cell}(hμ:μ[k]?=some (a,true)) (hs:Heap.SameBut a h h') (ht:(h'.get? a).isSome=true)
  (hc:cx prog w X μ h' a c):aS prog w X μ h' base (Z.set k c):=by
 have keep:∀ b o,b≠a->h.get? b=some o->h'.get? b=some o:=fun b o q e=>(hs.2 b q).trans e;refine ⟨by refine aa (aF ..) ?_;exact H.len,fun j c' e=>?_,H.inj,fun b o e=>?_,H.apart,fun b q=>?_,H.off⟩
 ·rw [List.getElem?_set] at e;by_cases q:k=j
  ·subst q;rw [if_pos rfl] at e;refine bR e fun _hc e=>?_;refine bp e ?_;exact .inr ⟨a,hμ,hc⟩
  ·rw [if_neg q] at e;refine (H.cell j c' e).imp id fun ⟨b,e1,r⟩=>⟨b,e1,?_⟩;have hb:b≠a:=fun z=>q (H.inj k j a hμ (z▸e1));have mv:∀ a' o,¬dY X μ a'->h.get? a'=some o->h'.get? a'=some o:=fun a' o nb e=>keep a' o (by rintro rfl;exact nb (.inl (cE hμ))) e;exact r.up mv (fc.refl μ h).ext (mD (fc.refl _ _) fun ζ x=>.inl x) fun o e=>keep _ o hb e
 ·exact keep b o (by rintro rfl;have:=H.apart b (.inl (cE hμ));rw [e] at this;exact gQ this) (H.stays b o e)
 ·by_cases z:b=a
  ·subst z;exact ht
  ·refine aa (hs.2 b z ..) ?_;exact H.here b q
theorem aS.cellAt (H:aS prog w X μ h base Z) {k:Nat}{c:Cell}(e:Z[k]?=some c) (hc:c≠.dead):∃ a,μ[k]?=some (a,true)/\cx prog w X μ h a c:=(H.cell k c e).resolve_left hc
inductive AX (prog:Program) (w:World) (X:Addr->Prop) (μ:Mu) (h:Heap) (k:Nat) (v:Value) (c:Cell):Prop
 | mk (a:Addr) (e:v=.ref a) (m:μ[k]?=some (a,true)) (r:cx prog w X μ h a c)
theorem aS.ownAt (H:aS prog w X μ h base Z) {k:Nat}{v:Value}{c:Cell}(r:bh X μ h (.own k) v) (e:Z[k]?=some c) (hc:c≠.dead):AX prog w X μ h k v c:=by
 refine aB (H.cellAt e hc) fun a e1 q=>?_
 cases r with
 | own e2=>rw [e1] at e2;refine dr e2 ?_;exact ⟨_,rfl,e1,q⟩
end
section
variable {X:Addr->Prop}{μ:Mu}{h:Heap}
noncomputable def N4 (X:Addr->Prop) (μ:Mu) (h:Heap) (v:Value):V->Prop
 | .none=>v=.none
 | .bool b=>v=.bool b
 | .int i=>∃ t,v=.int i t
 | .str x=>∃ t,v=.str x t
 | .tup l=>∃ a vs n,v=.ref a/\¬dY X μ a/\IsT h a (List.toArray vs) n/\aG X μ h l vs
 | .lst l=>∃ a vs n,v=.ref a/\¬dY X μ a/\IsL h a (List.toArray vs) n/\aG X μ h l vs
 | .rng i j=>∃ a t u w,v=.ref a/\¬dY X μ a/\IsRange h a i j 1 t u w
 | .own k=>∃ a b,v=.ref a/\μ[k]?=some (a,b)
 | .raw w=>v=w
theorem bh.view {d:V}{v:Value}(r:bh X μ h d v):N4 X μ h v d:=by
 cases r with
 | none=>exact rfl
 | bool b=>exact rfl
 | int i t=>exact ⟨t,rfl⟩
 | str x t=>exact ⟨t,rfl⟩
 | tup a b c=>exact ⟨_,_,_,rfl,a,b,c⟩
 | lst a b c=>exact ⟨_,_,_,rfl,a,b,c⟩
 | rng a b=>exact ⟨_,_,_,_,rfl,a,b⟩
 | own e=>exact ⟨_,_,rfl,e⟩
 | raw=>exact rfl
noncomputable def MT (X:Addr->Prop) (μ:Mu) (h:Heap) (vs:List Value):List V->Prop
 | []=>vs=[]
 | d::ds=>∃ v vs',vs=v::vs'/\bh X μ h d v/\aG X μ h ds vs'
theorem aG.view {ds:List V}{vs:List Value}(r:aG X μ h ds vs):MT X μ h vs ds:=by
 cases r with
 | nil=>exact rfl
 | cons a b=>exact ⟨_,_,rfl,a,b⟩
theorem aG.one {d:V}{args:List Value}(r:aG X μ h [d] args):∃ v,args=[v]/\bh X μ h d v:=by
 refine bG (r.view) fun v vs Q0 a b=>?_;subst Q0;exact ⟨v,congrArg (v::·) b.view,a⟩
theorem aG.two {d e:V}{args:List Value}(r:aG X μ h [d,e] args):∃ v u,args=[v,u]/\bh X μ h d v/\bh X μ h e u:=by
 refine bG (r.view) fun v vs Q0 a b=>?_;subst Q0;refine aB (b.one) fun u Q1 c=>?_;subst Q1;exact ⟨v,u,rfl,a,c⟩
end
structure bY (A:Around) (d:Nat):Prop where
 handled:A.handled=none
 guards:A.guards=some []
 depth:A.depth+10*d<=900
 units:A.units+100*d+500<=9000
theorem bY.less {A:Around}{d e:Nat}(r:bY A d) (h:e<=d):bY A e:=⟨r.handled,r.guards,by have:=r.depth;exact HB h this,by have:=r.units;exact HA h this⟩
theorem bY.deeper {A:Around}{d:Nat}{env:Env}(r:bY A (d+1)):bY (A.deeper env) d :=
 ⟨r.handled,r.guards,by have:=r.depth;show A.depth+1+10*d<=900;exact Eu this,by have:=r.units;show A.units+3+100*d+500<=9000;exact Hz this⟩
theorem bY.line {A:Around}{d:Nat}(r:bY A d):A.units+64<cLine:=by have:=r.units;have:cLine=9900:=rfl;exact Hy ‹_› this
theorem bY.limit {A:Around}{d:Nat}(r:bY A d):A.depth<recursionLimit:=by have:=r.depth;have:recursionLimit=1000:=rfl;exact Hw ‹_› this
section
variable (prog:Program) (w:World) (K:Frag) (base:Heap) (c:d8)
structure Wd:Prop where
 KX:K.In base
 nolimit:base.NoLimit
 glob:∀ x d,lk x c.G=some d->∃ v,d=.raw v/\∃ mg mb,base.Ns mainGlobals mg/\base.Ns builtinsNs mb/\(mg x=some v\/(mg x=none/\mb x=some v))
 meth:∀ C x f,c.mth C x=some f->plainGet K C x=true/\findIn K (.ref C) x=some (some (.ref f))/\isFn K (.ref f)=true
 att:∀ C x,c.att C x=true->plainGet K C x=true/\hasDictIn K C=true/\(∃ a,findIn K (.ref C) x=some a/\noGet K a=true)/\plainOver K C=true/\takerIn K C x=some none /\
  findIn K (.ref C) "__setattr__" =some (some (.builtin "object.__setattr__"))
inductive tW (prog:Program) (w:World) (base:Heap) (X:Addr->Prop) (μ:Mu) (s:Shared) (Z':ag) (v:V) (r:Result) (s':Shared):Prop
 | mk (u:Value) (μ':Mu) (e:r=.ok (.ret u)) (p:Stp No μ μ' s s') (H:aS prog w X μ' s'.heap base Z') (r:bh X μ' s'.heap v u)
noncomputable def fb (d:Nat):Prop:=∀ f vs Z v Z',c.Φ f vs Z=some (v,Z')->keepIn K (.ref f)=true /\
 ∀ (A:Around),bY A d->∀ (X:Addr->Prop) (μ:Mu) (s:Shared) (args:List Value),aS prog w X μ s.heap base Z->aG X μ s.heap vs args ->
  codeAny (model prog w) A (.call (.ref f) ⟨args,[]⟩) (tW prog w base X μ s Z' v) s
end
noncomputable def ir (X:Addr->Prop) (μ:Mu) (h:Heap) (env:Env) (m:Str->Option Value) (x:Str) (d:V):Prop :=
 (env.kindOf x=some .local->∃ v,m x=some v/\bh X μ h d v) /\
 ((env.kindOf x=some .cell\/env.kindOf x=some .free)->∃ a v,env.cells.lookup x=some a/\h.IsCell a (some v)/\X a/\bh X μ h d v)
theorem Od {o:Option NameKind}{G:Prop}(h:o=some .local) (k:o=some .cell\/o=some .free):G:=by
 subst h;exact k.elim nofun nofun
theorem ir.imp {X X':Addr->Prop}{μ μ':Mu}{h h':Heap}{env:Env}{m m':Str->Option Value}{x:Str}{d d':V}(r:ir X μ h env m x d) (mv:∀ v,bh X μ h d v->bh X' μ' h' d' v) (km:∀ v,m x=some v->m' x=some v)
  (ck:∀ a v,(env.kindOf x=some .cell\/env.kindOf x=some .free)->env.cells.lookup x=some a->h.IsCell a (some v)->X a->h'.IsCell a (some v)/\X' a):ir X' μ' h' env m' x d' :=
 ⟨fun k=>aB (r.1 k) fun v a b=>⟨v,km v a,mv v b⟩,fun k=>bK (r.2 k) fun a v h1 h2 h3 h4=>⟨a,v,h1,(ck a v k h1 h2 h3).1,(ck a v k h1 h2 h3).2,mv v h4⟩⟩
theorem ir.loc {X:Addr->Prop}{μ:Mu}{h:Heap}{env:Env}{m:Str->Option Value}{x:Str}{d:V}{v:Value}(k:env.kindOf x=some .local) (h1:m x=some v) (r:bh X μ h d v):ir X μ h env m x d:=⟨fun ζ=>⟨v,h1,r⟩,fun z=>Od k z⟩
theorem ir.celk {X:Addr->Prop}{μ:Mu}{h:Heap}{env:Env}{m:Str->Option Value}{x:Str}{d:V}{v:Value}{a:Addr}(k:env.kindOf x=some .cell\/env.kindOf x=some .free) (h1:env.cells.lookup x=some a) (h2:h.IsCell a (some v)) (h3:X a) (r:bh X μ h d v):ir X μ h env m x d:=⟨fun z=>Od z k,fun ζ=>⟨a,v,h1,h2,h3,r⟩⟩
noncomputable def yh (G:List (Str×V)) (x:Str):Prop:=lk x G=none/\x≠Str.ofString ".0"
noncomputable def ww (G : List (Str × V)) (x : Str) : Bool := (lk x G).isNone && x != Str.ofString ".0"
theorem Aj {G:List (Str×V)}{x:Str}(h:ww G x=true):yh G x :=
 have q:=ay.mp h
 ⟨Option.isNone_iff_eq_none.mp q.1,bne_iff_ne.mp q.2⟩
theorem tj {G:List (Str×V)}{x:Str}(h:yh G x):ww G x=true:=by
 unfold ww;refine aa (h.1 ..) ?_;exact bne_iff_ne.mpr h.2
structure bE (G:List (Str×V)) (X:Addr->Prop) (μ:Mu) (h:Heap) (env:Env) (ρ:aL):Prop where
 kind:env.scope.kind=.function
 glo:env.globals=mainGlobals
 bui:env.builtins=builtinsNs
 bar:X env.locals
 noG:∀ x d,lk x ρ=some d->yh G x
 ns:∃ m,h.Ns env.locals m/\∀ x d,lk x ρ=some d->ir X μ h env m x d
 cel:∀ x,(env.kindOf x=some .cell\/env.kindOf x=some .free)->∃ a v,env.cells.lookup x=some a/\h.IsCell a v/\X a/\a≠env.locals
 one:∀ x y a,(env.kindOf x=some .cell\/env.kindOf x=some .free)->(env.kindOf y=some .cell\/env.kindOf y=some .free)->env.cells.lookup x=some a->env.cells.lookup y=some a->x=y
noncomputable def NA (b:Bool):Option NameKind->Bool
 | some .local=>!b
 | some .cell=>!b
 | some .free=>!b
 | some .globalImplicit=>b
 | _=>false
theorem DV {o:Option NameKind}(h:NA true o=true):o=some .globalImplicit:=by
 induction o using Oy with
 | none=>exact aM h
 | some k=>induction k using NameKind.casesOn<;>first | rfl | exact aM h
theorem DW {o:Option NameKind}(h:NA false o=true):o=some .local\/o=some .cell\/o=some .free:=by
 induction o using Oy with
 | none=>exact aM h
 | some k=>induction k using NameKind.casesOn<;>first | exact .inl rfl | exact .inr (.inl rfl) | exact .inr (.inr rfl) | exact aM h
noncomputable def oz (G : List (Str × V)) (sc : Scope) (x : Str) : Bool := x != Str.ofString "__debug__" && x != Str.ofString "__classdict__" && NA (lk x G).isSome (sc.names.lookup x)
section
variable {prog:Program}{w:World}{K:Frag}{base:Heap}{c:d8}{X:Addr->Prop}{μ μ':Mu}{s s':Shared}{Z Z' Z1:ag}{ρ:aL}{env:Env}{A:Around}{E:Value->Shared->Prop}{d e da:V}
inductive Res (prog:Program) (w:World) (base:Heap) (X:Addr->Prop) (μ:Mu) (s:Shared) (Z':ag) (d:V) (v:Value) (s':Shared):Prop
 | mk (μ':Mu) (p:Stp No μ μ' s s') (H:aS prog w X μ' s'.heap base Z') (r:bh X μ' s'.heap d v)
inductive qR (prog:Program) (w:World) (base:Heap) (X:Addr->Prop) (μ:Mu) (s:Shared) (Z':ag) (ds:List V) (vs:List Value) (s':Shared):Prop
 | mk (μ':Mu) (p:Stp No μ μ' s s') (H:aS prog w X μ' s'.heap base Z') (r:aG X μ' s'.heap ds vs)
inductive j9 (prog:Program) (w:World) (base:Heap) (X:Addr->Prop) (μ:Mu) (s:Shared) (Z':ag) (t b:Bool) (s':Shared):Prop
 | mk (e:b=t) (μ':Mu) (p:Stp No μ μ' s s') (H:aS prog w X μ' s'.heap base Z')
theorem bE.imp {G:List (Str×V)}{X':Addr->Prop}(r:bE G X μ h env ρ) (mv:∀ d v,bh X μ h d v->bh X' μ' h' d v) (hl:X' env.locals) (kl:∀ o,h.get? env.locals=some o->h'.get? env.locals=some o)
  (ck:∀ x a v,(env.kindOf x=some .cell\/env.kindOf x=some .free)->env.cells.lookup x=some a->h.IsCell a v->X a->h'.IsCell a v/\X' a):bE G X' μ' h' env ρ :=
 ⟨r.kind,r.glo,r.bui,hl,r.noG,aB r.ns fun m h1 h2=>⟨m,h1.at' kl,fun x d e=>(h2 x d e).imp (mv d) (fun ζ e=>e) fun a v=>ck x a _⟩,
  fun x k=>bK (r.cel x k) fun a v h1 h2 h3 h4=>⟨a,v,h1,(ck x a v k h1 h2 h3).1,(ck x a v k h1 h2 h3).2,h4⟩,r.one⟩
theorem bE.stp (p:Stp No μ μ' s s') (off:∀ a,eD μ a->¬X a) (r:bE c.G X μ s.heap env ρ):bE c.G X μ' s'.heap env ρ :=
 r.imp (fun ζ ζ q=>q.stp p) r.bar (fun o e=>p.keep _ o (fun l=>off _ l r.bar) (fun q=>q) e) fun ζ a ζ ζ ζ h h3=>⟨aB h fun o e z=>⟨o,p.keep a o (fun l=>off a l h3) (fun q=>q) e,z⟩,h3⟩
theorem Res.after {v:Value}{sa:Shared}(p:Stp No μ μ' s sa) (r:Res prog w base X μ' sa Z' d v s'):Res prog w base X μ s Z' d v s':=Res.rec (fun m a b e=>⟨m,p.trans a,b,e⟩) r
theorem j9.after {t b:Bool}{sa:Shared}(p:Stp No μ μ' s sa) (r:j9 prog w base X μ' sa Z' t b s'):j9 prog w base X μ s Z' t b s':=j9.rec (fun z m a b=>⟨z,m,p.trans a,b⟩) r
theorem Res.el {v:Value}{G:Prop}(h:Res prog w base X μ s Z' d v s') (k:∀ μ',Stp No μ μ' s s'->aS prog w X μ' s'.heap base Z'->bh X μ' s'.heap d v->G):G:=Res.rec k h
theorem qR.el {ds:List V}{v:List Value}{G:Prop}(h:qR prog w base X μ s Z' ds v s') (k:∀ μ',Stp No μ μ' s s'->aS prog w X μ' s'.heap base Z'->aG X μ' s'.heap ds v->G):G:=qR.rec k h
theorem Res.eqv {v:Value}(e:(da,Z1)=(d,Z')) (r:Res prog w base X μ s Z1 da v s'):Res prog w base X μ s Z' d v s':=by refine eU e ?_;exact r
theorem on {t:Sem Value}{Q:Value->Shared->Prop}(h:wpAny (model prog w) A t (Res prog w base X μ s Z1 da) E s) (k:∀ v μ' s',Stp No μ μ' s s'->aS prog w X μ' s'.heap base Z1->bh X μ' s'.heap da v->Q v s'):wpAny (model prog w) A t Q E s:=az h (fun v s' q=>Res.el q fun μ' a b c=>k v μ' s' a b c) fun ζ ζ x=>x
theorem Bh {t:Sem (List Value)}{E:Value->Shared->Prop}{ds:List V}{Q:List Value->Shared->Prop}(h:wpAny (model prog w) A t (qR prog w base X μ s Z1 ds) E s) (k:∀ v μ' s',Stp No μ μ' s s'->aS prog w X μ' s'.heap base Z1->aG X μ' s'.heap ds v->Q v s'):wpAny (model prog w) A t Q E s:=az h (fun v s' q=>qR.el q fun μ' a b c=>k v μ' s' a b c) fun ζ ζ x=>x
theorem N9 {t:Sem Bool}{E:Value->Shared->Prop}{b:Bool}{Q:Bool->Shared->Prop}(h:wpAny (model prog w) A t (j9 prog w base X μ s Z1 b) E s) (k:∀ μ' s',Stp No μ μ' s s'->aS prog w X μ' s'.heap base Z1->Q b s'):wpAny (model prog w) A t Q E s:=az h (fun v s' q=>by obtain ⟨rfl,μ',a,b⟩:=q;exact k μ' s' a b) fun ζ ζ x=>x
theorem C0 {t:Sem Value}{sa:Shared}{μ1:Mu}{da:V}{Z1:ag}(e:(da,Z1)=(d,Z')) (p:Stp No μ μ1 s sa) (h:wpAny (model prog w) A t (Res prog w base X μ1 sa Z1 da) E sa):wpAny (model prog w) A t (Res prog w base X μ s Z' d) E sa:=by refine eU e ?_;exact az h (fun ζ ζ q=>q.after p) fun ζ ζ x=>x
theorem uL {t:Sem Value}{sa:Shared}{μ1:Mu}(p:Stp No μ μ1 s sa) (h:wpAny (model prog w) A t (Res prog w base X μ1 sa Z' d) E sa):wpAny (model prog w) A t (Res prog w base X μ s Z' d) E sa:=az h (fun ζ ζ q=>q.after p) fun ζ ζ x=>x
theorem MI {t:Sem Bool}{E:Value->Shared->Prop}{b:Bool}{sa:Shared}{μ1:Mu}(p:Stp No μ μ1 s sa) (h:wpAny (model prog w) A t (j9 prog w base X μ1 sa Z' b) E sa):wpAny (model prog w) A t (j9 prog w base X μ s Z' b) E sa:=az h (fun ζ ζ q=>q.after p) fun ζ ζ x=>x
theorem Res.tok {v:Value}{tk:Nat}(H:aS prog w X μ s.heap base Z) (r:bh X μ s.heap d v):Res prog w base X μ s Z d v { s with toks:=tk }:=⟨μ,Stp.of_keeps fun ζ ζ e=>e,H,r⟩
theorem Res.now {v:Value}(H:aS prog w X μ s.heap base Z) (r:bh X μ s.heap d v):Res prog w base X μ s Z d v s:=⟨μ,Stp.refl _ _ _,H,r⟩
theorem Res.made {v:Value}{o:Obj}{tk:Nat}(H:aS prog w X μ s.heap base Z) (r:bh X μ (s.heap.push o) d v):Res prog w base X μ s Z d v { s with heap:=s.heap.push o,toks:=tk } :=
 ⟨μ,Stp.of_keeps fun ζ ζ e=>ak _ e,H.push o,r⟩
theorem aG.push (o:Obj) {ds:List V}{vs:List Value}(r:aG X μ s.heap ds vs):aG X μ (s.heap.push o) ds vs:=r.mono (fun ζ ζ ζ e=>ak _ e) (fc.refl _ _) fun ζ x=>.inl x
theorem Res.tuple {vs:List Value}{ds:List V}(H:aS prog w X μ s.heap base Z) (r:aG X μ s.heap ds vs) :
  Res prog w base X μ s Z (.tup ds) (.ref s.heap.objs.size) { s with heap:=s.heap.push { cls:=.type "tuple",data:=.seq vs.toArray } } :=
 Res.made H (.tup H.fresh (IsT.new _ _) (r.push _))
theorem Res.list {vs:List Value}{ds:List V}(H:aS prog w X μ s.heap base Z) (r:aG X μ s.heap ds vs) :
  Res prog w base X μ s Z (.lst ds) (.ref s.heap.objs.size) { s with heap:=s.heap.push { cls:=.type "list",data:=.seq vs.toArray } } :=
 Res.made H (.lst H.fresh (IsL.new _ _) (r.push _))
theorem Res.cell {vs:List Value}{ds:List V}(H:aS prog w X μ s.heap base Z) (r:aG X μ s.heap ds vs) :
  Res prog w base X μ s (Z++[.lst ds]) (.own Z.length) (.ref s.heap.objs.size) { s with heap:=s.heap.push { cls:=.type "list",data:=.seq vs.toArray } }:=by
 have keep:∀ a o,s.heap.get? a=some o->(s.heap.push { cls:=.type "list",data:=.seq vs.toArray }).get? a=some o:=fun ζ ζ e=>ak _ e;have hx:fc μ (μ++[(s.heap.objs.size,true)]) s.heap:=(H.add (c:=.dead) keep (bP _) (by refine aa (aW _ rfl ..) ?_;rfl) trivial).2;refine bl (H.add (c:=.lst ds) keep (bP _) (by refine aa (aW _ rfl ..) ?_;rfl) ⟨vs,0,IsL.new _ _,r.mono (fun ζ ζ ζ e=>keep _ _ e) hx fun ζ x=>.inl x⟩) fun H' ζ=>?_;refine ⟨_,⟨⟨_,_,rfl⟩,fun a o ζ ζ e=>keep a o e,bX keep,hx⟩,H',.own (b:=true) ?_⟩;refine aa (aH (H.len ..)) ?_;simp
theorem oy {x:Str}{pos:Pos}(D:Wd K base c) (H:aS prog w X μ s.heap base Z) (R:bE c.G X μ s.heap env ρ) (hn:oz c.G env.scope x=true)
  (e:(match lk x ρ with | some v=>some (v,Z) | none=>(lk x c.G).map (·,Z))=some (d,Z')) :
  wpAny (model prog w) A (eval (.Name x pos) env) (Res prog w base X μ s Z' d) E s:=by
 have hn':=hn;simp only [oz,Bool.and_eq_true,bne_iff_ne,ne_eq] at hn;refine bl hn fun Q0 hkind=>?_;clear hn;refine bl Q0 fun hdbg hcd=>?_;clear Q0;have hd:(x==("__debug__" :Str))=false:=by simpa using hdbg
 refine aB (R.ns) fun m hm hv=>?_;have glob:env.kindOf x=some .globalImplicit->(lk x c.G).map (·,Z)=some (d,Z')->wpAny (model prog w) A (eval (.Name x pos) env) (Res prog w base X μ s Z' d) E s:=by
  intro hk q;refine eu q fun d' q1 q2=>?_;clear q;refine eU q2 ?_;refine aB (D.glob x _ q1) fun v Q1 Q2=>?_;subst Q1;refine bG (Q2) fun mg mb h1 h2 h3=>?_;clear Q2;have h1':=h1.keeps H.stays;have h2':=h2.keeps H.stays;refine Calls.Name_function_global R.kind hk ?_ hd;rcases h3 with h3 | ⟨h3,h4⟩
  ·exact Calls.loadGlobal_global (by exact aa (R.glo ..) (h1')) h3 (Res.now H (.raw v))
  ·exact Calls.loadGlobal_builtin (by exact aa (R.glo ..) (h1')) h3 (by exact aa (R.bui ..) (h2')) h4 (Res.now H (.raw v))
 induction q:lk x ρ using Oy with
 | none =>
  rw [q] at e;have:(lk x c.G).isSome=true:=by
   refine eu e fun d' q1 ζ=>?_;clear e;refine aa (q1 ..) ?_;rfl
  rw [this] at hkind;exact glob (DV hkind) e
 | some d' =>
  rw [q] at e;refine dr e ?_;have hr:=hv x _ q;rw [(R.noG _ _ q).1] at hkind;refine (DW hkind).elim (fun hk=>?_) fun k=>k.elim (fun hk=>?_) fun hk=>?_
  ·exact aB (hr.1 hk) fun v h1 h2=>wpAny_Name (wpAny_loadName_local R.kind hk hm h1 (Res.now H h2)) hd
  ·exact bK (hr.2 (.inl hk)) fun a v h1 h2 ζ h3=>wpAny_Name (wpAny_loadName_cell R.kind hk h1 h2 (Res.now H h3)) hd
  ·refine bK (hr.2 (.inr hk)) fun a v h1 h2 ζ h3=>wpAny_Name (wpAny_loadName_free R.kind hk h1 h2 (Res.now H h3) ?_) hd;simpa using hcd
theorem qe {a b:Nat}(h1:a<=lim) (h2:b<=lim):a+b<=sizeLine:=by
 have:lim=1000000:=rfl;refine aa (sizeLine_eq ..) ?_;exact GR h1 h2 this
theorem nF {a:Nat}(h1:a<=lim):a<=sizeLine:=by
 have:lim=1000000:=rfl;refine aa (sizeLine_eq ..) ?_;exact Ei h1 this
theorem sA {a b:Addr}{vs ws:List Value}{n m:Nat}{Q:Value->Shared->Prop}(ha:IsT s.heap a vs.toArray n) (hb:IsT s.heap b ws.toArray m) (hl:vs.length+ws.length<=sizeLine)
  (h1:vs=[]->Q (.ref b) s) (h2:ws=[]->Q (.ref a) s) (h3:Q (.ref s.heap.objs.size) { s with heap:=s.heap.push { cls:=.type "tuple",data:=.seq (vs++ws).toArray } }) :
  wpAny (model prog w) A (binaryOp .Add (.ref a) (.ref b)) Q E s:=by
 by_cases e1:vs.toArray.isEmpty=true
 ·refine concat_meets ⟨_,ha,rfl⟩ ⟨_,hb,rfl⟩ noFill_tuple_add seq_tuple_add F.slot_tuple_add F.entry_tuple_add (F.args_tuple_add_2 _ _) (AutoSeq1.tuple___add___tuple_tuple_0 a _ n b _ m e1) ⟨ha,hb,?_⟩;exact h1 (by simpa using e1)
 ·by_cases e2:ws.toArray.isEmpty=true
  ·refine concat_meets ⟨_,ha,rfl⟩ ⟨_,hb,rfl⟩ noFill_tuple_add seq_tuple_add F.slot_tuple_add F.entry_tuple_add (F.args_tuple_add_2 _ _) (AutoSeq1.tuple___add___tuple_tuple_1 a _ n b _ m e1 e2) ⟨ha,hb,?_⟩;exact h2 (by simpa using e2)
  ·refine P.add_tuple ha hb e1 e2 ?_ (by simpa using hl);simpa using h3
theorem eV {X:Addr->Prop}{μ:Mu}{h:Heap}{f:Int->Int->Option V}{d e da:V}{u v:Value}(q:ow f d e=some da) (r1:bh X μ h d u) (r2:bh X μ h e v):∃ i j t t',u=.int i t/\v=.int j t'/\f i j=some da:=by
 induction d using V.casesOn with
 | int i =>
  induction e using V.casesOn with
  | int j =>
   refine be (r1.view) fun t Q0=>?_;subst Q0;refine be (r2.view) fun t' Q1=>?_;subst Q1;exact ⟨i,j,t,t',rfl,rfl,q⟩
  | _=>exact aw q
 | _=>exact aw q
theorem yW {u v:Value}(H:aS prog w X μ s.heap base Z) (r1:bh X μ s.heap d u) (r2:bh X μ s.heap e v) (h:DU d e=some da) :
  wpAny (model prog w) A (binaryOp .Add u v) (Res prog w base X μ s Z da) E s:=by
 induction d using V.casesOn with
 | tup a =>
  induction e using V.casesOn with
  | tup b =>
   refine bR h fun hl h=>?_;refine bp h ?_;refine cM (r1.view) fun ζ ζ ζ Q0 n1 t1 l1=>?_;subst Q0;refine cM (r2.view) fun ζ ζ ζ Q1 n2 t2 l2=>?_;subst Q1;refine sA t1 t2 (by refine aa (l1.length ..) (aa (l2.length ..) ?_);exact qe hl.1 hl.2) (fun q=>?_) (fun q=>?_) (Res.tuple H (l1.append l2))
   ·subst q;have z:a=[]:=List.eq_nil_of_length_eq_zero l1.length.symm;subst z;exact Res.now H r2
   ·subst q;have z:b=[]:=List.eq_nil_of_length_eq_zero l2.length.symm;subst z;refine aa (List.append_nil ..) ?_;exact Res.now H r1
  | _=>exact aw h
 | lst a =>
  induction e using V.casesOn with
  | lst b =>
   refine bR h fun hl h=>?_;refine bp h ?_;refine cM (r1.view) fun ζ ζ ζ Q2 n1 t1 l1=>?_;subst Q2;refine cM (r2.view) fun ζ ζ ζ Q3 n2 t2 l2=>?_;subst Q3;refine P.add_list t1 t2 ?_ (by refine aa (aC ..) (aa (aC ..) (aa (l1.length ..) (aa (l2.length ..) ?_)));exact qe hl.1 hl.2);have:=Res.list (prog:=prog) (w:=w) H (l1.append l2);refine aa (List.append_toArray ..) ?_;exact this
  | _=>exact aw h
 | int i =>
  refine eO (eV (f:=fun a b=>some (.int (a+b))) h r1 r2) fun i j t t' Q4 Q5 q=>?_;subst Q4;subst Q5;refine bp q ?_;exact add_int (Res.tok H (.int _ _))
 | _=>exact aw (show none=some da from h)
theorem qG {op:Operator}{u v:Value}(H:aS prog w X μ s.heap base Z) (r1:bh X μ s.heap d u) (r2:bh X μ s.heap e v) (h:ft op d e=some da) :
  wpAny (model prog w) A (binaryOp op u v) (Res prog w base X μ s Z da) E s:=by
 induction op using Operator.casesOn with
 | Add=>exact yW H r1 r2 h
 | Sub =>
  refine eO (eV h r1 r2) fun i j t t' Q0 Q1 q=>?_;subst Q0;subst Q1;refine bp q ?_;exact PyProof.Rows.sub_int (Res.tok H (.int _ _))
 | Mult =>
  refine eO (eV h r1 r2) fun i j t t' Q2 Q3 q=>?_;subst Q2;subst Q3;refine bR q fun hl q=>?_;refine bp q ?_;have:lim=1000000:=rfl;exact PyProof.Rows.mul_int (Res.tok H (.int _ _)) (IntMulOk.of_left (intBits_le_64 (by omega) (by omega)))
 | FloorDiv =>
  refine eO (eV h r1 r2) fun i j t t' Q4 Q5 q=>?_;subst Q4;subst Q5;by_cases hl:j=0\/lim<j.natAbs
  ·rw [if_pos hl] at q;exact aw q
  ·rw [if_neg hl] at q;refine bp q ?_;have:lim=1000000:=rfl;exact floordiv_int (fun q=>hl (.inl q)) (Res.tok H (.int _ _)) (.inl (PyProof.noPylong_small (by have h1:=fun q=>hl (.inr q);exact GQ hl this)))
 | Mod =>
  refine eO (eV h r1 r2) fun i j t t' Q6 Q7 q=>?_;subst Q6;subst Q7;by_cases hl:j=0
  ·rw [if_pos hl] at q;exact aw q
  ·rw [if_neg hl] at q;refine bp q ?_;exact mod_int' hl (Res.tok H (.int _ _))
 | RShift =>
  refine eO (eV h r1 r2) fun i j t t' Q8 Q9 q=>?_;subst Q8;subst Q9;refine bR q fun hl q=>?_;refine bp q ?_;exact rshift_int hl (Res.tok H (.int _ _))
 | BitAnd =>
  refine eO (eV h r1 r2) fun i j t t' Q10 Q11 q=>?_;subst Q10;subst Q11;refine bp q ?_;exact and_int (Res.tok H (.int _ _))
 | _=>exact aw (show none=some da from h)
theorem uk {d:V}{u:Value}(r:bh X μ s.heap d u):∀ n,c6 n d=true->∃ as,Reads s.heap u (eH d) as :=
 bh.rec (motive_1:=fun d u ζ=>∀ n,c6 n d=true->∃ as,Reads s.heap u (eH d) as) (motive_2:=fun d u ζ=>∀ n,cw n d=true->∃ as,ReadsAll s.heap u (dD d) as)
  (fun ζ ζ=>⟨_,.none⟩) (fun b ζ ζ=>⟨_,.bool b⟩) (fun i t ζ ζ=>⟨_,.int i t⟩) (fun x t ζ ζ=>⟨_,.str x t⟩)
  (fun ζ t ζ i n=>Nat.casesOn n aM fun n h=>(i n h).elim fun ζ q=>⟨_,.tuple t rfl rfl q⟩) (fun ζ t ζ i n=>Nat.casesOn n aM fun n h=>(i n h).elim fun ζ q=>⟨_,.list t rfl rfl q⟩)
  (fun ζ ζ n=>Nat.casesOn n aM fun ζ=>aM) (fun ζ n=>Nat.casesOn n aM fun ζ=>aM) (fun ζ n=>Nat.casesOn n aM fun ζ=>aM)
  (fun ζ ζ=>⟨_,.nil⟩) (fun ζ ζ i j n h=>(i n (bF h).1).elim fun ζ q=>(j n (bF h).2).elim fun ζ q2=>⟨_,.cons q q2⟩) r
theorem jm (n:Nat) {d:V}{u:Value}(h:c6 n d=true) (r:bh X μ s.heap d u):∃ as,Reads s.heap u (eH d) as:=uk r n h
theorem ku (n:Nat) {ds:List V}{vs:List Value}(h:cw n ds=true) (r:aG X μ s.heap ds vs):∃ as,ReadsAll s.heap vs (dD ds) as :=
 aG.ind r (P:=fun d u=>cw n d=true->∃ as,ReadsAll s.heap u (dD d) as) (fun ζ=>⟨_,.nil⟩) (fun ζ ζ ζ ζ r ζ j h=>(jm n (bF h).1 r).elim fun ζ q=>(j (bF h).2).elim fun ζ q2=>⟨_,.cons q q2⟩) h
noncomputable abbrev Du (d:V):Prop:=∀ n,c6 n d=true->(eH d).canLay0=true/\(eH d).depth<=n
theorem qi {d:V}{l:List V}(i:Du d) (j:∀ n,cw n l=true->PyData.canLayAll0 (dD l)=true/\PyData.depthAll (dD l)<=n) (n:Nat) (h:cw n (d::l)=true):PyData.canLayAll0 (dD (d::l))=true/\PyData.depthAll (dD (d::l))<=n:=by
 have q1:=i n (bF h).1;have q2:=j n (bF h).2;exact ⟨ay.mpr ⟨q1.1,q2.1⟩,Nat.max_le.mpr ⟨q1.2,q2.2⟩⟩
theorem tx (d:V):Du d :=
 V.rec (motive_1:=Du) (motive_2:=fun l=>∀ n,cw n l=true->PyData.canLayAll0 (dD l)=true/\PyData.depthAll (dD l)<=n)
  (fun ζ ζ=>⟨rfl,Nat.zero_le _⟩) (fun ζ ζ ζ=>⟨rfl,Nat.zero_le _⟩) (fun ζ ζ ζ=>⟨rfl,Nat.zero_le _⟩) (fun x n=>Nat.casesOn n (fun h=>⟨h,Nat.zero_le _⟩) fun ζ h=>⟨h,Nat.zero_le _⟩)
  (fun ζ i n=>Nat.casesOn n aM fun n h=>⟨(i n h).1,Nat.succ_le_succ (i n h).2⟩) (fun ζ i n=>Nat.casesOn n aM fun n h=>⟨(i n h).1,Nat.succ_le_succ (i n h).2⟩)
  (fun ζ ζ n=>Nat.casesOn n aM fun ζ=>aM) (fun ζ n=>Nat.casesOn n aM fun ζ=>aM) (fun ζ n=>Nat.casesOn n aM fun ζ=>aM)
  (fun ζ ζ=>⟨rfl,Nat.zero_le _⟩) (fun ζ ζ i j=>qi i j) d
theorem wM (n:Nat) (d:V) (h:c6 n d=true):(eH d).canLay0=true/\(eH d).depth<=n:=tx d n h
theorem rI (l:List V):∀ n,cw n l=true->PyData.canLayAll0 (dD l)=true/\PyData.depthAll (dD l)<=n :=
 List.rec (fun ζ ζ=>⟨rfl,Nat.zero_le _⟩) (fun d ζ j=>qi (tx d) j) l
theorem uy (n:Nat) (l:List V) (h:cw n l=true):PyData.canLayAll0 (dD l)=true/\PyData.depthAll (dD l)<=n:=rI l n h
theorem iy (d:V) (h:c6 16 d=true):SeqAt.shaped (eH d)=true:=by
 have q:=wM 16 d h;exact ay.mpr ⟨q.1,aA (af q.2 (by decide))⟩
theorem Nq (Z:ag) (k:Nat) {P:V->Prop}(h1:∀ l,Z[k]?=some (.lst l)->P (.lst l)) (h2:P (.own k)):P (rd Z (.own k)):=by
 delta rd;dsimp only;generalize Z[k]?=o at h1 ⊢
 induction o using Oy with
 | none=>exact h2
 | some c =>
  induction c using Cell.casesOn with
  | lst l=>exact h1 l rfl
  | _=>exact h2
theorem Nn {k:Nat}{l:List V}(h:bO Z (.own k)=some l):Z[k]?=some (.lst l):=by
 delta bO at h;dsimp only at h;generalize Z[k]?=o at h ⊢
 induction o using Oy with
 | none=>exact aw h
 | some c =>
  induction c using Cell.casesOn with
  | lst l'=>exact bp h rfl
  | _=>exact aw h
theorem wH {k:Nat}{l:List V}{u:Value}(H:aS prog w X μ s.heap base Z) (r:bh X μ s.heap (.own k) u) (q:Z[k]?=some (.lst l)):∃ a vs n,u=.ref a/\aG X μ s.heap l vs/\IsL s.heap a vs.toArray n :=
 AX.casesOn (H.ownAt r q nofun) fun a e ζ r=>bQ r fun vs n t r=>⟨a,vs,n,e,r,t⟩
theorem om {u:Value}(H:aS prog w X μ s.heap base Z) (r:bh X μ s.heap d u) (h:c6 16 (rd Z d)=true):∃ as,Reads s.heap u (eH (rd Z d)) as:=by
 induction d using V.casesOn with
 | own k =>
  revert h
  refine Nq Z k (P:=fun d=>c6 16 d=true->∃ as,Reads s.heap u (eH d) as) (fun l q h=>?_) aM;refine dm (wH H r q) fun a vs n zz rr t=>?_;subst zz;exact (ku 15 h rr).elim fun as q=>⟨_,.list t rfl rfl q⟩
 | _=>exact jm 16 h r
theorem vt (l:List V):dD l=l.map eH:=by
 induction l with
 | nil=>rfl
 | cons d l ih=>exact congrArg (List.cons _) ih
theorem iz {u:Value}{l:List V}(H:aS prog w X μ s.heap base Z) (r:bh X μ s.heap d u) (h:bO Z d=some l) :
  ∃ a vs n,u=.ref a/\aG X μ s.heap l vs/\(IsT s.heap a vs.toArray n\/IsL s.heap a vs.toArray n):=by
 induction d using V.casesOn with
 | tup l'=>exact bp h (cM r.view fun a vs n e ζ t r=>⟨a,vs,n,e,r,.inl t⟩)
 | lst l'=>exact bp h (cM r.view fun a vs n e ζ t r=>⟨a,vs,n,e,r,.inr t⟩)
 | own k=>exact dm (wH H r (Nn h)) fun a vs n e r t=>⟨a,vs,n,e,r,.inr t⟩
 | _=>exact aw h
theorem sJ {x:V}{l:List V}{t:Bool}(h:vi x l=some t):c6 16 x=true/\cw 16 l=true/\((dD l).any fun y=>PyData.eqv y (eH x))=t:=by
 unfold vi at h;refine bR h fun q h=>?_;refine bp h ?_;refine ⟨q.1,q.2,?_⟩;refine aa (vt ..) (aa (List.any_map ..) ?_);rfl
theorem jp {X:Addr->Prop}{μ:Mu}{h:Heap}{f:Int->Int->Bool}{d e:V}{b:Bool}{u v:Value}(q:wu f d e=some b) (r1:bh X μ h d u) (r2:bh X μ h e v):∃ i j t t',u=.int i t/\v=.int j t'/\f i j=b:=by
 induction d using V.casesOn with
 | int i =>
  induction e using V.casesOn with
  | int j =>
   refine be (r1.view) fun t Q0=>?_;subst Q0;refine be (r2.view) fun t' Q1=>?_;subst Q1;exact ⟨i,j,t,t',rfl,rfl,aq q⟩
  | _=>exact aw q
 | _=>exact aw q
theorem Bi {u v:Value}{t:Bool}(r1:bh X μ s.heap d u) (r2:bh X μ s.heap e v) (h:Oc d e=some t):wpAny (model prog w) A (compareOp .Is u v) (fun r s'=>r=.bool t/\s'=s) E s:=by
 induction e using V.casesOn with
 | none =>
  obtain rfl:=r2.view
  induction d using V.casesOn with
  | none =>
   obtain rfl:=r1.view;refine bp h ?_;exact PySem.is_none ⟨rfl,rfl⟩
  | int i =>
   refine be (r1.view) fun ζ Q0=>?_;subst Q0;refine bp h ?_;exact PySem.is_none ⟨rfl,rfl⟩
  | tup l =>
   refine cp (r1.view) fun ζ ζ ζ Q1 ζ=>?_;subst Q1;refine bp h ?_;exact PySem.is_none ⟨rfl,rfl⟩
  | _=>exact aw h
 | _=>exact aw h
theorem sK {a b:V}{t:Bool}(h:u9 a b=some t):(c6 16 a=true/\c6 16 b=true)/\PyData.eqv (eH a) (eH b)=t:=bR h fun q e=>⟨q,aq e⟩
theorem ql {u v:Value}{k:Nat}{l:List V}(ro:bY A k) (H:aS prog w X μ s.heap base Z) (r1:bh X μ s.heap d u) (r2:bh X μ s.heap e v) (h1:c6 16 d=true) (h2:cw 16 l=true) (q1:bO Z e=some l) :
  ∃ a vs n as bs,v=.ref a/\(IsT s.heap a (List.toArray vs) n\/IsL s.heap a (List.toArray vs) n)/\Reads s.heap u (eH d) as/\ReadsAll s.heap vs (dD l) bs/\PyData.canLayAll0 (dD l)=true/\(eH d).canLay0=true/\A.units+1+min (PyData.depthAll (dD l)) (eH d).depth<cLine:=by
 refine dm (iz H r2 q1) fun a vs n Q0 r t2=>?_;subst Q0;refine be (jm 16 h1 r1) fun as p1=>?_;refine be (ku 16 h2 r) fun bs p2=>?_;have l1:=wM 16 _ h1;have l2:=uy 16 _ h2;have hu:=ro.line
 exact ⟨a,vs,n,as,bs,rfl,t2,p1,p2,l2.1,l1.1,by
  have:=Nat.min_le_left (PyData.depthAll (dD l)) (eH d).depth;have:=l2.2;exact GP hu this⟩
theorem C9 {op:CmpOp}{u v:Value}{t:Bool}{k:Nat}(ro:bY A k) (H:aS prog w X μ s.heap base Z) (r1:bh X μ s.heap d u) (r2:bh X μ s.heap e v) (h:mj Z op d e=some t) :
  wpAny (model prog w) A (compareOp op u v) (fun r s'=>r=.bool t/\s'=s) E s:=by
 have hu:=ro.line
 induction op using CmpOp.casesOn with
 | Lt=>refine eO (jp h r1 r2) fun i j t t' Q0 Q1 Q2=>?_;subst Q0;subst Q1;subst Q2;exact PyProof.Rows.lt_int ⟨rfl,rfl⟩
 | LtE=>refine eO (jp h r1 r2) fun i j t t' Q3 Q4 Q5=>?_;subst Q3;subst Q4;subst Q5;exact PyProof.Rows.le_int ⟨rfl,rfl⟩
 | Gt=>refine eO (jp h r1 r2) fun i j t t' Q6 Q7 Q8=>?_;subst Q6;subst Q7;subst Q8;exact PyProof.Rows.gt_int ⟨rfl,rfl⟩
 | GtE=>refine eO (jp h r1 r2) fun i j t t' Q9 Q10 Q11=>?_;subst Q9;subst Q10;subst Q11;exact PyProof.Rows.ge_int ⟨rfl,rfl⟩
 | Eq =>
  refine bl (sK h) fun q Q12=>?_;subst Q12;refine be (om H r1 q.1) fun as q1=>?_;refine be (om H r2 q.2) fun bs q2=>?_;exact eq_dataH q1 q2 (iy _ q.1) (iy _ q.2) hu ⟨rfl,rfl⟩
 | NotEq =>
  refine eu (show (u9 (rd Z d) (rd Z e)).map (!·)=some t from h) fun b g z=>?_;subst z;refine bl (sK g) fun q Q13=>?_;subst Q13;refine be (om H r1 q.1) fun as q1=>?_;refine be (om H r2 q.2) fun bs q2=>?_;exact ne_dataH q1 q2 (iy _ q.1) (iy _ q.2) hu ⟨rfl,rfl⟩
 | Is=>exact Bi r1 r2 h
 | In =>
  refine dv (show (bO Z e).bind (vi d)=some t from h) fun l q1 q2=>?_;refine fi (sJ q2) fun h1 h2 h3=>?_;refine oN (ql ro H r1 r2 h1 h2 q1) fun a vs n as bs Q14 t2 p1 p2 z1 z2 lt=>?_;subst Q14;rcases t2 with t2 | t2
  ·exact SeqAt.in_tuple_reads (.tuple t2 rfl rfl p2) p1 z1 z2 lt ⟨congrArg Value.bool h3,rfl⟩
  ·exact SeqAt.in_list_reads (.list t2 rfl rfl p2) p1 z1 z2 lt ⟨congrArg Value.bool h3,rfl⟩
 | NotIn =>
  refine eu (show ((bO Z e).bind (vi d)).map (!·)=some t from h) fun b g z=>?_;subst z;refine dv g fun l q1 q2=>?_;refine fi (sJ q2) fun h1 h2 h3=>?_;refine oN (ql ro H r1 r2 h1 h2 q1) fun a vs n as bs Q15 t2 p1 p2 z1 z2 lt=>?_;subst Q15;rcases t2 with t2 | t2
  ·exact SeqAt.notIn_tuple_reads (.tuple t2 rfl rfl p2) p1 z1 z2 lt ⟨congrArg (fun b=>Value.bool (!b)) h3,rfl⟩
  ·exact SeqAt.notIn_list_reads (.list t2 rfl rfl p2) p1 z1 z2 lt ⟨congrArg (fun b=>Value.bool (!b)) h3,rfl⟩
 | _=>exact aw (show none=some t from h)
theorem bh.handed {u:Value}(r:bh X μ s.heap d u) (h:eX d=false):handedIn u=true:=by
 cases r<;>first | rfl | exact cg h
noncomputable def N5 (X:Addr->Prop) (μ:Mu) (h:Heap) (x:Str) (es:List DictEntry):Option V->Prop
 | some d=>∃ v,getL x es=some (some v)/\bh X μ h d v/\eX d=false
 | none=>getL x es=some none
theorem fk.lk {P:Params}{x:Str}{fs:List (Str×V)}{es:List DictEntry}(r:fk P X μ s.heap fs es):N5 X μ s.heap x es (Mine.lk x fs):=by
 induction r with
 | nil=>exact rfl
 | @cons y d v t fs es q r p ih =>
  by_cases hxy:y=x
  ·exact aa (P:=N5 X μ s.heap x _) (if_pos hxy) ⟨v,by simp [getL,Value.isStr,hxy],r,q⟩
  ·have hs:(Value.str y t).isStr x=false:=beq_eq_false_iff_ne.mpr hxy;have e:getL x (⟨PyData.keyHash P y,.str y t,v⟩::es)=getL x es:=by
    unfold getL;simp only [List.find?_cons,hs,List.any_cons];rfl
   refine aa (P:=N5 X μ s.heap x _) (if_neg hxy) ?_
   revert ih
   cases Mine.lk x fs with
   | none=>exact e.trans
   | some d=>exact fun ih=>aB ih fun v h1 h2=>⟨v,e.trans h1,h2⟩
structure N6 (h:Heap) (a C:Addr) (es:List DictEntry) (n:Nat) (dx:Addr):Prop where
 at_:InstAt h a (instObj C dx) C (some (dictOf es n))
theorem oH {k dk:Nat}{C:Addr}{u:Value}{fs:List (Str×V)}(H:aS prog w X μ s.heap base Z) (r:bh X μ s.heap (.own k) u) (h1:Z[k]?=some (.inst C dk)) (h2:Z[dk]?=some (.attrs fs)) :
  ∃ a dx es n,u=.ref a/\μ[dk]?=some (dx,true)/\s.heap.get? dx=some (dictOf es n)/\fk w.params X μ s.heap fs es/\fs.length<=500/\InstAt s.heap a (instObj C dx) C (some (dictOf es n)):=by
 obtain ⟨a,rfl,_,dx,q1,b,q2⟩:=H.ownAt r h1 (by simp);refine aB (H.cellAt h2 (by simp)) fun dx' q3 Q0=>?_;refine bG (Q0) fun es n q4 q5 q6=>?_;clear Q0;rw [q2] at q3;cases q3;exact ⟨a,dx,es,n,rfl,q2,q4,q5,q6,⟨q1,rfl,rfl,q4⟩⟩
theorem rP {k dk:Nat}{C:Addr}{x:Str}{u:Value}{fs:List (Str×V)}{expr:Bool}(D:Wd K base c) (H:aS prog w X μ s.heap base Z) (r:bh X μ s.heap (.own k) u) (h1:Z[k]?=some (.inst C dk)) (h2:Z[dk]?=some (.attrs fs))
  (h3:c.att C x=true) (h4:lk x fs=some d):wpAny (model prog w) A (getAttr u x expr) (Res prog w base X μ s Z d) E s:=by
 refine j2 (oH H r h1 h2) fun a dx es n Q0 ζ ζ q ζ I=>?_;subst Q0;have XK:=fun a o e=>H.stays a o (D.KX a o e);refine ik (D.att _ _ h3) fun p1 p2 Q1 ζ=>?_;refine aB Q1 fun at_ p3 p4=>?_;clear Q1;have q':=q.lk (x:=x);rw [h4] at q';refine bH q' fun v e1 e2 e3=>?_;clear q';exact get_value XK I (plainGet_of p1).1 (findObj_own p2 p3 p4 e1) (e2.handed e3) (Res.tok H e2)
theorem getMethod_ok {k dk:Nat}{C f:Addr}{x:Str}{u:Value}{fs:List (Str×V)}{pl:Sem Bool}{Q:Value×List Value->Shared->Prop}(D:Wd K base c) (H:aS prog w X μ s.heap base Z) (r:bh X μ s.heap (.own k) u) (h1:Z[k]?=some (.inst C dk))
  (h2:Z[dk]?=some (.attrs fs)) (h3:c.mth C x=some f) (h4:lk x fs=none) (h:Q (.ref f,[u]) s):wpAny (model prog w) A (getMethod u x pl) Q E s:=by
 refine j2 (oH H r h1 h2) fun a dx es n Q0 ζ ζ q ζ I=>?_;subst Q0;have XK:=fun a o e=>H.stays a o (D.KX a o e);refine fi (D.meth _ _ _ h3) fun p1 p2 p3=>?_;have q':=q.lk (x:=x);rw [h4] at q';exact method_fn XK I (plainGet_of p1).1 (plainGet_of p1).2 p2 (beq_iff_eq.mp p3) (by show (lookIn x (dictOf es n)).map _=_;refine aa (lookIn_dict ..) (aa (q' ..) ?_);rfl) h
noncomputable def lH:Expr->Bool
 | .Call (.Name _ _) [] [] _=>false
 | _=>true
theorem gm {o:Expr}{x:Str}{whole:Sem Value}(h:lH o=true):attributeBase o x env whole=whole:=by
 induction o using Expr.casesOn with
 | Call f as ks p =>
  induction f using Expr.casesOn with
  | Name id q =>
   induction as using OA with
   | nil =>
    induction ks using OA with
    | nil=>exact aM h
    | cons _ _=>rfl
   | cons _ _=>rfl
  | _=>rfl
 | _=>rfl
theorem u3 {o:Expr}{x:Str}{pos:Pos}{Q:Value->Shared->Prop}(hb:lH o=true)
  (h:wpAny (model prog w) A (eval o env) (fun u sa=>wpAny (model prog w) A (getAttr u x true) Q E sa) E s):wpAny (model prog w) A (eval (.Attribute o x pos) env) Q E s:=by
 refine aa (arm_eval_Attribute ..) (aa (gm hb ..) ?_);exact ab (az h (fun u sa hJ=>ab (wpAny_standAt (ab (wpAny_holding (az hJ (fun r sb hU=>ab (wpAny_letTemporaryGo (av hU))) fun ζ ζ x=>x))))) fun ζ ζ x=>x)
theorem vU {i:Int}{n k:Nat}(h:cy i n=some k):seqIndex? i n=some k/\ -(n:Int)<=i/\i<n:=by
 unfold cy at h;unfold seqIndex?;refine ju h (fun _ h=>?_) fun _ h=>?_
 ·refine bR h fun _hc h=>?_;refine bp h ?_;rename_i h1 h2;have:¬i<0:=GK h1;simp only [this,if_false];refine ⟨?_,by exact GJ this,by exact GI _hc⟩;simp;exact GH _hc this
 ·refine bR h fun _hc h=>?_;refine bp h ?_;rename_i h1 h2;have:i<0:=Eg h1;simp only [this,if_true];refine ⟨?_,by exact By _hc,by exact GG this⟩;simp;exact GF _hc this
noncomputable def kC:Expr->Bool
 | .Slice ..=>true
 | _=>false
theorem gL {sl:Expr}(h:kC sl=false) (o i:Value):subscripted sl false o i=operate [o,i] (getItem o i):=by
 induction sl using Expr.casesOn<;>first | rfl | exact cg h
theorem zm {a:Addr}{vs:List Value}{n j:Nat}{i:Int}{t:Tok}{x:Value}{Q:Value->Shared->Prop}(ht:IsT s.heap a vs.toArray n\/IsL s.heap a vs.toArray n) (hl:vs.length<=lim) (hj:cy i vs.length=some j) (hx:vs[j]?=some x) (h:Q x s) :
  wpAny (model prog w) A (getItem (.ref a) (.int i t)) Q E s:=by
 refine fi (vU hj) fun q1 q2 q3=>?_;have hl':lim=1000000:=rfl;rcases ht with ht | ht
 ·exact P.getItem_tuple ht (by lia) (by lia) (by simpa using q1) (by simpa using hx) h
 ·unfold cy at hj;split at hj
  ·refine bR hj fun _hc hj=>?_;obtain rfl:=aq hj;rename_i h0 h1;exact wpAny_getItem_list ht.isList h0 (by lia) (by simpa using hx) h
  ·refine bR hj fun _hc hj=>?_;obtain rfl:=aq hj;rename_i h0 h1;exact wpAny_getItem_list_neg ht.isList (Eg h0) (by exact aa (aC ..) (By _hc)) (by lia) (by simpa using hx) h
theorem ka.lk {x:Str}{fs:List (Str×V)}{kvs:List (Str×Value)}(r:ka X μ s.heap fs kvs):∀ {d:V},Mine.lk x fs=some d->∃ v,valueAt kvs x=some v/\bh X μ s.heap d v:=by
 induction r with
 | nil=>exact aw
 | @cons y d v fs es r p ih =>
  intro d' h;by_cases q:y=x
  ·exact bp ((if_pos q).symm.trans h) ⟨v,by simp [valueAt,q],r⟩
  ·exact aB (ih ((if_neg q).symm.trans h)) fun v' h1 h2=>⟨v',by simpa [valueAt,q] using h1,h2⟩
noncomputable def vx (Z:ag) (v:V):V->Option (V×ag)
  | .int j=>(bO Z v).bind fun l=>if l.length<=lim then (cy j l.length).bind fun k=>(l[k]?).map (·,Z) else none
  | .str x=>(match v with
   | .own k=>(match Z[k]? with | some (.sdct fs)=>(lk x fs).map (·,Z) | _=>none)
   | _=>none)
  | _=>none
theorem yq {value sl:Expr}{u v:Value}(hs:kC sl=false) (H:aS prog w X μ s.heap base Z) (r1:bh X μ s.heap d u) (r2:bh X μ s.heap e v) (h:vx Z d e=some (da,Z')) :
  wpAny (model prog w) A (subscriptTail value sl u v) (Res prog w base X μ s Z' da) E s:=by
 induction e using V.casesOn with
 | int j =>
  refine dv h fun l q1 q2=>?_;clear h;refine bR q2 fun hl q2=>?_;refine dv q2 fun k q3 q4=>?_;clear q2;refine eu q4 fun d' q5 q6=>?_;clear q4;refine eU q6 ?_;refine dm (iz H r1 q1) fun a vs n Q0 rl ht=>?_;subst Q0;refine aB (rl.get q5) fun x q7 q8=>?_
  cases r2
  have hT:∃ T id,s.TypeIs (.ref a) T/\typeLookup (.type T) "__getitem__" =pure (some (.builtin id)):=by
   rcases ht with ht | ht
   ·exact ⟨"tuple",_,⟨_,ht,rfl⟩,F.slot_tuple_getitem.lookup⟩
   ·exact ⟨"list",_,⟨_,ht,rfl⟩,slot_list_getitem.lookup⟩
  refine bQ hT fun T id hT hlk=>?_;exact tail_any hT hlk (zm ht (by exact aa (rl.length ..) (hl)) (by exact aa (rl.length ..) (q3)) q7 (Res.now H q8)) (gL hs _ _)
 | str x =>
  induction d using V.casesOn with
  | own k =>
   simp only [vx] at h
   induction q:Z[k]? using Oy with
   | none=>rw [q] at h;exact aw h
   | some cl =>
    rw [q] at h
    induction cl using Cell.casesOn with
    | sdct fs =>
     refine eu h fun d' q1 q2=>?_;clear h;refine eU q2 ?_;obtain ⟨a,rfl,_,kvs,h1,h2,_⟩:=H.ownAt r1 q (by simp);refine aB (h2.lk q1) fun v' h3 h4=>?_
     cases r2
     exact tail_any h1.typeIs slot_dict_getitem.lookup (wpAny_getItem_of (strKind_is prog w x _) h1.mapOf h3 (Res.tok H h4)) (gL hs _ _)
    | _=>exact aw h
  | _=>exact aw h
 | _=>exact aw h
theorem mI (n:Nat) (h:1<=n):Builtin.Slice.sliceAdjust none (some (-1)) 1 (n:Int)=(0,(n:Int) - 1):=by
 unfold Builtin.Slice.sliceAdjust;have h1:¬((1:Int)<0):=by decide
 have h2:((-1:Int)<0):=by decide
 simp only [h1,h2,if_false,if_true];congr 1;exact GC h
theorem lB (n:Nat) (h:1<=n):Builtin.Slice.slicePlaces 0 ((n:Int) - 1) 1=n - 1:=by
 unfold Builtin.Slice.slicePlaces;have h1:(1:Int)>0:=by decide
 simp only [h1,if_true,Int.ediv_one]
 split<;>(first | exact GB | exact GA ‹_›)
theorem gO {sl:Addr}{n:Nat}{u:Tok}{Q:Int×Int×Nat->Shared->Prop}(hs:s.heap.IsSliceOf sl .none (.int (-1) u) .none) (hn:1<=n) (h:Q (0,1,n - 1) s) :
  wpAny (model prog w) A (Builtin.Slice.sliceApplied (.ref sl) (pure (n:Int))) Q E s:=by
 refine bH (id hs) fun os hos hcs hds=>?_;unfold Builtin.Slice.sliceApplied Builtin.Slice.sliceFields;refine ab (ab (wpAny_field hos hds (x:=.none) rfl (ab (wpAny_field hos hds (x:=.int (-1) u) rfl (ab (wpAny_field hos hds (x:=.none) rfl (av ?_)))))));refine ab (slicePart_none ?_);show wpAny _ _ (if ((1:Int)==0)=true then _ else _) _ _ s;refine aa (if_neg (by decide) ..) ?_;refine ab (slicePart_none (ab (slicePart_int (ab (av ?_)))));show wpAny _ _ (match Builtin.Slice.sliceAdjust none (some (-1)) 1 (n:Int) with | (lo,hi)=>pure (lo,(1:Int),Builtin.Slice.slicePlaces lo hi 1)) _ _ s;refine aa (mI n hn ..) ?_;show wpAny _ _ (pure ((0:Int),(1:Int),Builtin.Slice.slicePlaces 0 ((n:Int) - 1) 1)) _ _ s;refine aa (lB n hn ..) ?_;exact av h
theorem oo (xs:Array Value):((List.range (xs.size - 1)).filterMap fun (k:Nat)=>xs[((0:Int)+(k:Int)*1).toNat]?).toArray=xs.toList.dropLast.toArray:=by
 have e:(fun (k:Nat)=>xs[((0:Int)+(k:Int)*1).toNat]?)=fun k=>xs[k]?:=by
  funext k
  have:((0:Int)+(k:Int)*1).toNat=k:=Gz;exact aa (this ..) rfl
 refine aa (e ..) ?_;have:=pick_run xs 0 (xs.size - 1);simp only [Nat.zero_add,List.map_id',List.drop_zero] at this;exact aa (this ..) (aa (List.dropLast_eq_take ..) (aa (Array.length_toList ..) rfl))
theorem gH {t sl:Addr}{items:Array Value}{u:Tok}{Q:Value->Shared->Prop}(ht:IsTup s.heap t items) (hs:s.heap.IsSliceOf sl .none (.int (-1) u) .none) (h1:1<=items.size)
  (h:Q (.ref s.heap.objs.size) { s with heap:=s.heap.push { cls:=.type "tuple",data:=.seq items.toList.dropLast.toArray } })
  (hsz:items.size<=sizeLine):wpAny (model prog w) A (getItem (.ref t) (.ref sl)) Q E s:=by
 have hdrop:sizeOk (.seq items.toList.dropLast.toArray):=by
  show items.toList.dropLast.toArray.size<=sizeLine;refine aa (aC ..) (aa (List.length_dropLast ..) (aa (Array.length_toList ..) ?_));exact Gy hsz
 refine bH (id hs) fun os hos hcs hds=>?_;have hTs:s.TypeIs (.ref sl) "slice" :=⟨os,hos,hcs⟩;unfold getItem
 try with_reducible refine wpAny_holding ?_
 first | refine ab (av ?_) | skip
 refine ab (wpAny_sequenceKey ht.typeIs (by decide) ?_);refine ab (wpAny_callSpecial?_slot (name:=Str.ofString "__getitem__") ht.typeIs slot_tuple_getitem
  (wpAny_call_entry slot_tuple_getitem ht.typeIs entry_tuple_getitem ?_ (args_tuple_getitem _ _)))
 show wpAny _ _ (Builtin.Tuple.tupleItemsOf (.ref t) >>= _) _ _ s;refine ab (tupleItemsOf_ ht ?_);refine ab (wpAny_typeOf hTs ?_);refine aa (if_pos (by decide) ..) ?_;refine ab (gO hs h1 ?_);have hno:¬(((0:Int)==0&&(1:Int)==1&&(items.size - 1)==items.size)=true):=by
  have:(items.size - 1==items.size)=false:=by rw [beq_eq_false_iff_ne];exact Gx h1
  refine aa (this ..) ?_;simp
 show wpAny _ _ (if ((0:Int)==0&&(1:Int)==1&&(items.size - 1)==items.size)=true then _ else _) _ _ s;refine aa (if_neg hno ..) (aa (oo items ..) ?_)
 first
  | exact ab (m:=Builtin.Tuple.tupleExact _) (wpAny_newObj_type (av ⟨_,rfl,av h⟩) hdrop)
  | exact ab (m:=Builtin.Tuple.tupleExact _) (wpAny_newObj_type (ab (av (av ⟨_,rfl,av h⟩))) hdrop)
  | exact ab (ab (m:=Builtin.Tuple.tupleExact _) (wpAny_newObj_type (av (av ⟨_,rfl,av h⟩)) hdrop))
  | exact ab (ab (m:=Builtin.Tuple.tupleExact _) (wpAny_newObj_type (av ⟨_,rfl,av h⟩) hdrop))
theorem gE {α:Type}:∀ l:List α,((List.range ((l.length+1) / 2)).map (2*·)).filterMap (l[·]?)=everyOther l
 | []=>by simp<;>rfl
 | [a]=>by simp [List.range_succ]<;>rfl
 | a::b::r=>by
  have ih:=gE r;have e:((a::b::r).length+1) / 2=(r.length+1) / 2+1:=by simp only [aR];exact Gw
  refine aa (e ..) (aa (List.range_succ_eq_map ..) ?_);simp only [List.map_cons,List.filterMap_cons,List.map_map];show _=a::everyOther r;have h0:(a::b::r)[2*0]?=some a:=rfl;refine aa (h0 ..) ?_;simp only;congr 1;refine aa (aH (ih ..)) ?_;refine aa (List.filterMap_map ..) (aa (List.filterMap_map ..) ?_);congr 1
theorem mQ (vs:List Value):slicePick vs.toArray none none (some 2)=(everyOther vs).toArray:=by
 unfold slicePick;have e:sliceBounds none none (some 2) vs.toArray.size=(0,(vs.length:Int),2):=by simp [sliceBounds]
 refine aa (e ..) ?_;have e2:sliceRange 0 (vs.length:Int) 2=(List.range ((vs.length+1) / 2)).map (2*·):=by
  unfold sliceRange;have h1:(2:Int)>0:=by decide
  simp only [h1,if_true];have h2:((if (0:Int)<vs.length then ((vs.length:Int) - 0+2 - 1) / 2 else 0)).toNat=(vs.length+1) / 2:=by
   split<;>(first | exact Gv | exact Gs ‹_›)
  refine aa (h2 ..) ?_;congr 1
  funext k
  exact Gr
 refine aa (e2 ..) ?_;have:=gE vs;refine aa (aH (this ..)) ?_;simp
theorem aG.everyOther0 (n:Nat):∀ {ds:List V}{vs:List Value},ds.length<=n->aG X μ s.heap ds vs->aG X μ s.heap (Mine.everyOther ds) (Mine.everyOther vs):=by
 induction n with
 | zero=>intro ds vs h r;cases r with
  | nil=>exact .nil
  | cons _ _=>exact absurd h (Nat.not_succ_le_zero _)
 | succ n ih=>intro ds vs h r;cases r with
  | nil=>exact .nil
  | cons a r=>cases r with
   | nil=>exact .cons a .nil
   | cons b r=>exact .cons a (ih (Nat.le_of_succ_le (Nat.le_of_succ_le_succ h)) r)
theorem aG.everyOther {ds:List V}{vs:List Value}(r:aG X μ s.heap ds vs):aG X μ s.heap (Mine.everyOther ds) (Mine.everyOther vs):=r.everyOther0 _ (aU _)
theorem aG.dropLast {ds:List V}{vs:List Value}(r:aG X μ s.heap ds vs):aG X μ s.heap ds.dropLast vs.dropLast:=by
 refine aa (List.dropLast_eq_take ..) (aa (List.dropLast_eq_take ..) (aa (r.length ..) ?_));exact r.take _
noncomputable def ML (o:Bool) (Z:ag) (v:V) (i:Int):Option (V×ag):=match rd Z v with
    | .tup l=>if i= -1/\l.length<=lim/\l.isEmpty=false then some (.tup l.dropLast,Z) else none
    | .lst l=>if 0<=i/\l.length<=lim then (if o then some (.own Z.length,Z++[.lst (l.take i.toNat)]) else some (.lst (l.take i.toNat),Z)) else none
    | _=>none
theorem Res.slc {o:Obj}{v:Value}(r:Res prog w base X μ { s with heap:=s.heap.push o } Z' d v s'):Res prog w base X μ s Z' d v s' :=
 Res.after (sa:={ s with heap:=s.heap.push o }) (Stp.of_keeps fun ζ ζ e=>ak _ e) r
theorem rt {u:Value}{l:List V}(H:aS prog w X μ s.heap base Z) (r:bh X μ s.heap d u) (h:rd Z d=.lst l):∃ a vs n,u=.ref a/\aG X μ s.heap l vs/\IsL s.heap a vs.toArray n:=by
 induction d using V.casesOn with
 | own k=>exact Nq Z k (P:=fun d=>d=.lst l->∃ a vs n,u=.ref a/\aG X μ s.heap l vs/\IsL s.heap a vs.toArray n) (fun l' q h=>V.lst.inj h▸wH H r q) nofun h
 | lst l'=>exact V.lst.inj h▸cM r.view fun a vs n e ζ t r=>⟨a,vs,n,e,r,t⟩
 | _=>exact nomatch (show _=V.lst l from h)
theorem ul {l:List V}(h:rd Z d=.tup l):d=.tup l:=by
 induction d using V.casesOn with
 | own k=>exact Nq Z k (P:=fun d=>d=.tup l->V.own k=.tup l) nofun (fun h=>h) h
 | _=>exact h
set_option tactic.hygienic true in
theorem C8 {value:Expr}{lo hi:Option Expr}{p:Pos}{u:Value}{i:Int}{t:Tok}{b:Bool}(H:aS prog w X μ s.heap base Z) (r1:bh X μ s.heap d u) (h:ML b Z d i=some (da,Z')) :
  wpAny (model prog w) A (subscriptTail value (.Slice lo hi none p) u (.ref s.heap.objs.size)) (Res prog w base X μ s Z' da) E { s with heap:=s.heap.push { cls:=.type "slice",data:=.fields #[.none,.int i t,.none] } }:=by
 have keep:∀ a o,s.heap.get? a=some o->(s.heap.push { cls:=.type "slice",data:=.fields #[.none,.int i t,.none] }).get? a=some o:=fun ζ ζ e=>ak _ e;have H':=H.keeps keep;have hl':lim=1000000:=rfl;unfold ML at h;split at h
 ·rename_i l q;refine bR h fun hc h=>?_;refine dr h ?_;refine fi hc fun Q0 h1 h2=>?_;clear hc;subst Q0;have:=ul q;subst this;refine cM (r1.view) fun a vs n Q1 nb ht rl=>?_;subst Q1;have hlen:=rl.length;have h3:vs≠[]:=fun z=>by rw [z] at hlen;induction l using OA<;>simp at hlen h2
  have h4:=List.length_pos_iff.mpr h3;have ht':IsT (s.heap.push { cls:=.type "slice",data:=.fields #[.none,.int (-1) t,.none] }) a vs.toArray n:=keep _ _ ht;refine tail_any (T:= "tuple") ⟨_,ht',rfl⟩ F.slot_tuple_getitem.lookup (gH (u:=t) ⟨_,ht',rfl,n,rfl⟩ (Heap.IsSliceOf.new ..) (by simp;exact Gq h4) ?_ (by refine aa (aC ..) (aa (hlen ..) (aa (sizeLine_eq ..) ?_));exact Ee hl' h1)) rfl;have:=Res.tuple (s:={ s with heap:=s.heap.push { cls:=.type "slice",data:=.fields #[.none,.int (-1) t,.none] } }) (prog:=prog) (w:=w) H' ((rl.push (s:=s) { cls:=.type "slice",data:=.fields #[.none,.int (-1) t,.none] }).dropLast (s:={ s with heap:=s.heap.push { cls:=.type "slice",data:=.fields #[.none,.int (-1) t,.none] } }));exact Res.slc (by simpa using this)
 ·rename_i l q;refine bR h fun hc h=>?_;refine bl hc fun h0 h1=>?_;clear hc;refine dm (rt H r1 q) fun a vs n Q2 rl ht=>?_;subst Q2;have hlen:=rl.length;have ht':IsL (s.heap.push { cls:=.type "slice",data:=.fields #[.none,.int i t,.none] }) a vs.toArray n:=keep _ _ ht;have hpick:slicePick vs.toArray none (some i) none=(vs.take i.toNat).toArray:=by
   have:=slicePick_upto' vs.toArray i.toNat;rw [Int.toNat_of_nonneg h0] at this;simpa using this
  refine tail_any (T:= "list") ⟨_,ht',rfl⟩ slot_list_getitem.lookup (wpAny_getItem_list_slice ht'.isList (Heap.IsSliceOf.new ..) .none (.int i t) .none (by simp) ?_ (by refine aa (aC ..) (aa (hlen ..) (aa (sizeLine_eq ..) ?_));exact Ee hl' h1)) rfl;refine aa (hpick ..) ?_;have rl':=(rl.push (s:=s) { cls:=.type "slice",data:=.fields #[.none,.int i t,.none] }).take i.toNat
  induction b using Oz with
  | false =>
   simp only [Bool.false_eq_true,if_false] at h;refine dr h ?_;exact Res.slc (Res.list (s:={ s with heap:=s.heap.push { cls:=.type "slice",data:=.fields #[.none,.int i t,.none] } }) (prog:=prog) (w:=w) H' rl')
  | true =>
   simp only [if_true] at h;refine dr h ?_;exact Res.slc (Res.cell (s:={ s with heap:=s.heap.push { cls:=.type "slice",data:=.fields #[.none,.int i t,.none] } }) (prog:=prog) (w:=w) H' rl')
 ·exact aw h
set_option tactic.hygienic true in
theorem zM {value:Expr}{lo hi st:Option Expr}{p:Pos}{l:List V}{u:Value}{t:Tok}(hst:st.isSome=true) (H:aS prog w X μ s.heap base Z) (r1:bh X μ s.heap (.lst l) u) (hl:l.length<=lim) :
  wpAny (model prog w) A (subscriptTail value (.Slice lo hi st p) u (.ref s.heap.objs.size)) (Res prog w base X μ s Z (.lst (Mine.everyOther l))) E { s with heap:=s.heap.push { cls:=.type "slice",data:=.fields #[.none,.none,.int 2 t] } }:=by
 have keep:∀ a o,s.heap.get? a=some o->(s.heap.push { cls:=.type "slice",data:=.fields #[.none,.none,.int 2 t] }).get? a=some o:=fun ζ ζ e=>ak _ e;have H':=H.keeps keep;have hl':lim=1000000:=rfl;refine cM (r1.view) fun a vs n Q0 nb ht rl=>?_;subst Q0;have hlen:=rl.length;have ht':IsL (s.heap.push { cls:=.type "slice",data:=.fields #[.none,.none,.int 2 t] }) a vs.toArray n:=keep _ _ ht;refine be (ax.mp hst) fun st' Q1=>?_;subst Q1;refine tail_any (T:= "list") ⟨_,ht',rfl⟩ slot_list_getitem.lookup (wpAny_getItem_list_slice ht'.isList (Heap.IsSliceOf.new ..) .none .none (.int 2 t) (by simp) ?_ (by refine aa (aC ..) (aa (hlen ..) (aa (sizeLine_eq ..) ?_));exact Ei hl hl')) rfl;refine aa (mQ ..) ?_;have rl':=(rl.push (s:=s) { cls:=.type "slice",data:=.fields #[.none,.none,.int 2 t] }).everyOther (s:={ s with heap:=s.heap.push { cls:=.type "slice",data:=.fields #[.none,.none,.int 2 t] } });exact Res.slc (Res.list (s:={ s with heap:=s.heap.push { cls:=.type "slice",data:=.fields #[.none,.none,.int 2 t] } }) (prog:=prog) (w:=w) H' rl')
noncomputable def dB:Expr->Bool
 | .Starred ..=>false
 | _=>true
theorem b7 {e:Expr}{r:List Expr}(h:dB e=true):starEach (e::r) env=(false,eval e env)::starEach r env:=by
 induction e using Expr.casesOn<;>first | rfl | exact aM h
theorem ld (pos:Pos) {es:List Expr}(h:es.all dB=true):(backTo pos (starEach es env)).any (·.1)=false:=by
 induction es with
 | nil=>rfl
 | cons e r ih =>
  have h:=bF h;refine aa (b7 h.1 ..) ?_;exact ih h.2
theorem jh (pos:Pos) {es:List Expr}(h:es.all dB=true):((backTo pos (starEach es env)).all (fun x=>!x.1))=true:=by
 induction es with
 | nil=>rfl
 | cons e r ih =>
  have h:=bF h;refine aa (b7 h.1 ..) ?_;exact ih h.2
theorem qu {M:Model}{f:Value}{pos:Pos}{es:List Expr}{Q:Args->Shared->Prop}(hs:es.all dB=true) (h:wpAny M A (spliced (backTo pos (starEach es env))) (fun vs s'=>Q ⟨vs,[]⟩ s') E s) :
  wpAny M A (evalArgs f true (backTo pos (starEach es env)) []) Q E s:=by
 induction es using OA with
 | nil =>
  unfold evalArgs;show wpAny M A (spliced (backTo pos (starEach [] env)) >>= _) Q E s;refine ab (az h (fun vs s' h'=>?_) fun ζ ζ x=>x);exact wpAny_holding (ab (av (ab (av (av h')))))
 | cons e r =>
  rw [List.all_cons,Bool.and_eq_true] at hs;rw [b7 hs.1] at h ⊢;exact Calls.evalArgs_plain h
theorem callWith_of' {M:Model}{pos:Pos}{f:Value}{first:List Value}{es:List Expr}{Q:Value->Shared->Prop}{P:Heap->Prop}(hs:es.all dB=true)
  (hk:∀ h,P h->∃ k,(k=Keeper.frame\/k=Keeper.machine\/k=Keeper.boundFrame)/\Looks M h (keeperOf f) k)
  (h:wpAny M A (spliced (backTo pos (starEach es env))) (fun vs sa=>P sa.heap/\wpAny M A (call f (first++vs)) Q E sa) E s):wpAny M A (callWith pos f first (backTo pos (starEach es env)) []) Q E s :=
 callWith_of (by refine aa (ld pos hs ..) ?_;rfl) hk (qu hs h)
theorem fJ {M:Model}{pos:Pos}{f:Value}{first:List Value}{es:List Expr}{Q:Value->Shared->Prop}(hs:es.all dB=true) (hf:∀ a,f≠.ref a)
  (h:wpAny M A (spliced (backTo pos (starEach es env))) (fun vs sa=>wpAny M A (call f (first++vs)) Q E sa) E s):wpAny M A (callWith pos f first (backTo pos (starEach es env)) []) Q E s :=
 callWith_of' (P:=fun ζ=>True) hs (fun h ζ=>⟨.machine,.inr (.inl rfl),Looks.of_pure (by induction f using Value.casesOn<;>first | rfl | exact absurd rfl (hf _))⟩) (az h (fun ζ ζ q=>⟨trivial,q⟩) fun ζ ζ x=>x)
theorem mo {pos:Pos}{f:Addr}{first:List Value}{es:List Expr}{Q:Value->Shared->Prop}(hs:es.all dB=true) (D:Wd K base c) (hf:keepIn K (.ref f)=true)
  (h:wpAny (model prog w) A (spliced (backTo pos (starEach es env))) (fun vs sa=>(∃ μ' Z',aS prog w X μ' sa.heap base Z')/\wpAny (model prog w) A (call (.ref f) (first++vs)) Q E sa) E s) :
  wpAny (model prog w) A (callWith pos (.ref f) first (backTo pos (starEach es env)) []) Q E s :=
 callWith_of' (P:=fun h=>K.In h) hs (keeps_K hf) (az h (fun _ _ ⟨⟨_,_,H⟩,q⟩=>⟨fun a o e=>H.stays a o (D.KX a o e),q⟩) fun ζ ζ x=>x)
theorem jw {l:List V}{vs:List Value}{a:List Int}(r:aG X μ s.heap l vs) (h:c7 l=some a):IntsAre vs a :=
 aG.ind r (P:=fun l vs=>∀ a,c7 l=some a->IntsAre vs a) (fun a h=>bp h .nil) (fun d v ds vs r ζ ih a h=>by
  induction d using V.casesOn with
  | int i=>exact eu h fun b h1 h2=>(r.view).elim fun t e=>by subst e;exact h2▸.cons i t (ih b h1)
  | _=>exact aw h) a h
theorem vW {h:Heap}{vs:List Value}{a:List Int}(r:IntsAre vs a):aG X μ h (a.map .int) vs:=by
 induction r with
 | nil=>exact .nil
 | cons n t r ih=>exact .cons (.int n t) ih
theorem fE {a:Addr}{xs:Array Value}{n:Nat}(h:IsT s.heap a xs n):IsTup s.heap a xs:=⟨_,h,rfl,n,rfl⟩
theorem eg {a:Addr}{xs:Array Value}{n:Nat}(h:IsL s.heap a xs n):s.heap.IsList a xs:=⟨_,h,rfl,n,rfl⟩
theorem Res.kept {v:Value}{h':Heap}{tk:Nat}(hk:∀ a o,s.heap.get? a=some o->h'.get? a=some o) (r:Res prog w base X μ { s with heap:=h',toks:=tk } Z' d v s'):Res prog w base X μ s Z' d v s' :=
 Res.after (sa:={ s with heap:=h',toks:=tk }) (Stp.of_keeps hk) r
theorem Res.listAt {h':Heap}{tk n:Nat}{vs:List Value}{ds:List V}{a:Addr}(H:aS prog w X μ s.heap base Z) (hk:∀ a o,s.heap.get? a=some o->h'.get? a=some o) (hn:s.heap.get? a=none)
  (ha:IsL h' a vs.toArray n) (r:aG X μ h' ds vs):Res prog w base X μ s Z (.lst ds) (.ref a) { s with heap:=h',toks:=tk } :=
 ⟨μ,Stp.of_keeps hk,H.keeps hk,.lst (fun b=>by have:=H.here _ b;rw [hn] at this;exact aM this) ha r⟩
theorem eQ (a b:Int):Builtin.Range.rangeSize a b 1=((b - a).toNat:Int):=by
 refine aa (rangeSize_one ..) ?_;split<;>(first | exact Gp ‹_› | exact Go ‹_›)
theorem d9 {a:Int}(h:a.natAbs<=2 ^ 40):Builtin.Range.rangeFitsLong a=true:=by
 exact ay.mpr ⟨aA (Int.le_trans (by decide) (NC h)),aA (Int.lt_of_le_of_lt (ND h) (by decide))⟩
theorem iK {a b:Int}(h1:a.natAbs<=lim) (h2:b.natAbs<=lim):Builtin.Range.small a b 1=true:=by
 have f:(((b - a).toNat:Nat):Int).natAbs<=2 ^ 40:=af (jt ⟨h1,h2⟩) (by decide);unfold Builtin.Range.small;rw [d9 (af h1 (by decide)),d9 (af h2 (by decide)),d9 (by decide),eQ,d9 f];simp
 right
 first | exact d9 f | exact d9 (af h1 (by decide)) | exact d9 (af h2 (by decide)) | exact d9 (by omega)
end
noncomputable def Tr {α:Type}(N:Nat) (lt:Nat->Nat->Bool):KasT α->(α->Prop)->Prop
 | .ret a,P=>P a
 | .ask i j k,P=>i<N/\j<N/\Tr N lt (k (lt i j)) P
theorem Tr.bind {α β:Type}{N:Nat}{lt:Nat->Nat->Bool}{f:α->KasT β}{P:β->Prop}:∀ {t:KasT α},Tr N lt t (fun a=>Tr N lt (f a) P)->Tr N lt (t.bind f) P
 | .ret _,h=>h
 | .ask _ _ _,h=>⟨h.1,h.2.1,Tr.bind h.2.2⟩
theorem Tr.mono {α:Type}{N:Nat}{lt:Nat->Nat->Bool}{P Q:α->Prop}(hq:∀ a,P a->Q a):∀ {t:KasT α},Tr N lt t P->Tr N lt t Q
 | .ret _,h=>hq _ h
 | .ask _ _ _,h=>⟨h.1,h.2.1,Tr.mono hq h.2.2⟩
theorem Tr.wp {α:Type}{N:Nat}{lt:Nat->Nat->Bool}{P:α->Prop}{mj:Nat->Nat->(Bool->Shared->Prop)->Shared->Prop}{s:Shared}(hc:∀ i j C,i<N->j<N->C (lt i j) s->mj i j C s) :
  ∀ {t:KasT α},Tr N lt t P->t.kasWp mj (fun a s'=>P a/\s'=s) s
 | .ret _,h=>⟨h,rfl⟩
 | .ask _ _ _,h=>hc _ _ _ h.1 h.2.1 (Tr.wp hc h.2.2)
section
variable (B:Nat->Nat->Bool)
noncomputable abbrev gG (i j:Nat):Bool:=!B j i
noncomputable def at' (p:Array Nat) (i:Nat):Nat:=p.getD i 0
noncomputable def Up (p:Array Nat) (m:Nat):Prop:=∀ i j,i<=j->j<m->B (at' p i) (at' p j)=true
noncomputable def ke (p:Array Nat) (m:Nat):Prop:=∀ i j,i<=j->j<m->B (at' p j) (at' p i)=true
structure po:Prop where
 trans:∀ i j k,B i j=true->B j k=true->B i k=true
 total:∀ i j,B i j=true\/B j i=true
variable {B}
theorem po.refl (O:po B) (i:Nat):B i i=true:=(O.total i i).elim id id
theorem po.lt (O:po B) {i j:Nat}(h:gG B i j=true):B i j=true:=(O.total i j).elim id fun h'=>by simp [gG,h'] at h
theorem lL {i j:Nat}(h:gG B i j=false):B j i=true:=by simpa [gG] using h
theorem mG (p:Array Nat) (i:Nat):at' p i=(p[i]?).getD 0:=by
 unfold at';simp [Array.getD_eq_getD_getElem?]
theorem nW {p:Array Nat}{src d:Nat}(hs:src<p.size) (hd:d<=src) (k:Nat):at' (bubble p src d) k=if k=src - d then at' p src else if src - d<k/\k<=src then at' p (k - 1) else at' p k:=by
 refine aa (mG ..) (aa (getElem?_bubble hs d hd k ..) ?_)
 split
 ·exact aa (mG ..) rfl
 ·split<;>exact aa (mG ..) rfl
theorem j7 {p:Array Nat}{i j:Nat}(hj:j<=p.size) (k:Nat):at' (kas_rev p i j) k=if i<=k/\k<j then at' p (i+j - 1 - k) else at' p k:=by
 refine aa (mG ..) ?_;unfold kas_rev;refine aa (getElem?_mirror_all hj k ..) ?_
 split<;>exact aa (mG ..) rfl
theorem vV (p:Array Nat) (i j:Nat):(kas_rev p i j).Perm p:=mirror_perm _ _ _ _
theorem Up.snoc (O:po B) {p:Array Nat}{m:Nat}(h:Up B p m) (h1:1<=m) (hb:B (at' p (m - 1)) (at' p m)=true):Up B p (m+1):=fun i j hij hj=>by
 by_cases q:j<m
 ·exact h i j hij q
 ·obtain rfl:j=m:=Bx hj q;by_cases q2:i=j
  ·subst q2;exact O.refl _
  ·exact O.trans _ _ _ (h i (j - 1) (Ed hij q2) (Ec h1)) hb
theorem ke.snoc (O:po B) {p:Array Nat}{m:Nat}(h:ke B p m) (h1:1<=m) (hb:B (at' p m) (at' p (m - 1))=true):ke B p (m+1):=fun i j hij hj=>by
 by_cases q:j<m
 ·exact h i j hij q
 ·obtain rfl:j=m:=Bx hj q;by_cases q2:i=j
  ·subst q2;exact O.refl _
  ·exact O.trans _ _ _ hb (h i (j - 1) (Ed hij q2) (Ec h1))
theorem ke.one (O:po B) (p:Array Nat):ke B p 1:=fun i j hij hj=>by
 obtain rfl:i=j:=Eb hij hj;exact O.refl _
theorem Up.one (O:po B) (p:Array Nat):Up B p 1:=fun i j hij hj=>by
 obtain rfl:i=j:=Eb hij hj;exact O.refl _
noncomputable def Pm (N:Nat) (p:Array Nat):Prop:=p.Perm (List.toArray (List.range N))
theorem Pm.size {N:Nat}{p:Array Nat}(h:Pm N p):p.size=N:=by have:=Array.Perm.size_eq h;simpa using this
theorem Pm.at {N:Nat}{p:Array Nat}(h:Pm N p) {i:Nat}(hi:i<N):at' p i<N:=by
 have hs:=h.size;refine aa (mG ..) (aa (Array.getElem?_eq_getElem (zg hi hs) ..) ?_);have:p[i]'(zg hi hs)∈p.toList:=by simp
 have:=(Array.perm_iff_toList_perm.mp h).mem_iff.mp this;simpa using this
theorem Pm.rev {N:Nat}{p:Array Nat}(h:Pm N p) (i j:Nat):Pm N (kas_rev p i j):=Array.Perm.trans (vV _ _ _) h
variable {N:Nat}
theorem sy (O:po B) {p:Array Nat}(hp:Pm N p):∀ (f n:Nat),1<=n->n+f<=N->Up B p n->Tr N (gG B) (kas_asc p f n) fun m=>n<=m/\m<=n+f/\Up B p m/\(m=n+f\/gG B (at' p m) (at' p (m - 1))=true)
 | 0,n,_,_,h=>⟨aU _,by exact Gi,h,.inl rfl⟩
 | f+1,n,h1,hN,h=>by
  refine ⟨hp.at (Ex hN),hp.at (Bw hN),?_⟩;show Tr N (gG B) (if gG B (at' p n) (at' p (n - 1))=true then KasT.ret n else kas_asc p f (n+1)) _
  induction q:gG B (at' p n) (at' p (n - 1)) using Oz with
  | true=>exact ⟨aU _,by exact Gh,h,.inr q⟩
  | false=>exact (sy O hp f (n+1) wL (Bu hN) (h.snoc O h1 (lL q))).mono fun m ⟨b,c,d,e⟩=>⟨by exact AH b,by exact AG c,d,e.imp (fun z=>by exact Gg z) id⟩
noncomputable def Ab (p:Array Nat) (B:Nat->Nat->Bool) (i j:Nat):Prop:=∀ k,i<=k->k<j->B (at' p k) (at' p (j - 1))=true/\B (at' p (j - 1)) (at' p k)=true
theorem qx (O:po B) {p:Array Nat}{i j m:Nat}(hj:j<=p.size) (hs:Ab p B i j) (h:ke B p m) (hjm:j<=m):ke B (kas_rev p i j) m:=fun a b hab hb=>by
 refine aa (j7 hj ..) (aa (j7 hj ..) ?_);by_cases qa:i<=a/\a<j
 ·by_cases qb:i<=b/\b<j
  ·refine aa (if_pos qa ..) (aa (if_pos qb ..) ?_);exact O.trans _ _ _ (hs _ (wK qb) (tv qb)).1 (hs _ (wK qa) (tv qa)).2
  ·refine aa (if_pos qa ..) (aa (if_neg qb ..) ?_);exact h _ _ (Gf hab qa qb) (HR hb)
 ·by_cases qb:i<=b/\b<j
  ·refine aa (if_neg qa ..) (aa (if_pos qb ..) ?_);exact h _ _ (Ge hab qa qb) (Gc hjm qb)
  ·refine aa (if_neg qa ..) (aa (if_neg qb ..) ?_);exact h _ _ hab hb
noncomputable abbrev i6 (B:Nat->Nat->Bool) (N n f:Nat) (r:Array Nat×Nat×Nat):Prop:=Pm N r.1/\n<=r.2.1/\r.2.1<=n+f/\r.2.2+1<=r.2.1/\ke B r.1 r.2.1/\Ab r.1 B (r.2.1 - (r.2.2+1)) r.2.1
theorem i6.less {n f:Nat}{r:Array Nat×Nat×Nat}(h:i6 B N (n+1) f r):i6 B N n (f+1) r:=⟨h.1,by have:=h.2.1;exact AH this,by have:=h.2.2.1;exact AG this,h.2.2.2⟩
theorem kS (O:po B):∀ (f:Nat) (p:Array Nat) (n q:Nat),Pm N p->1<=n->q+1<=n->n+f<=N->ke B p n->Ab p B (n - (q+1)) n->Tr N (gG B) (kas_desc f p n q) (i6 B N n f)
 | 0,p,n,q,hp,h1,h2,_,h3,h4=>⟨hp,aU _,aU _,h2,h3,h4⟩
 | f+1,p,n,q,hp,h1,h2,hN,h3,h4=>by
  have hps:=hp.size;refine ⟨hp.at (Ex hN),hp.at (Bw hN),?_⟩;show Tr N (gG B) (if gG B (at' p n) (at' p (n - 1))=true then (if q>0 then kas_desc f (kas_rev p (n - (q+1)) n) (n+1) 0 else kas_desc f p (n+1) 0)
   else KasT.ask (at' p (n - 1)) (at' p n) fun d=>if d=true then KasT.ret (p,n,q) else kas_desc f p (n+1) (q+1)) _
  have one:∀ p'':Array Nat,Ab p'' B (n+1 - (0+1)) (n+1):=fun p'' k a b=>by
   obtain rfl:k=n:=AF a b;exact ⟨O.refl _,O.refl _⟩
  induction e:gG B (at' p n) (at' p (n - 1)) using Oz with
  | true =>
   refine aa (if_pos rfl ..) ?_;by_cases hq:q>0
   ·refine aa (if_pos hq ..) ?_;have hd:ke B (kas_rev p (n - (q+1)) n) (n+1):=qx O (m:=n+1) (Gb hN hps) h4 (h3.snoc O h1 (O.lt e)) Ga;exact (kS O f (kas_rev p (n - (q+1)) n) (n+1) 0 (hp.rev _ _) wL Bv (Bu hN) hd (one _)).mono fun ζ=>i6.less
   ·refine aa (if_neg hq ..) ?_;exact (kS O f p (n+1) 0 hp wL Bv (Bu hN) (h3.snoc O h1 (O.lt e)) (one _)).mono fun ζ=>i6.less
  | false =>
   refine aa (if_neg (by simp) ..) ?_;refine ⟨hp.at (Bw hN),hp.at (Ex hN),?_⟩;show Tr N (gG B) (if gG B (at' p (n - 1)) (at' p n)=true then KasT.ret (p,n,q) else kas_desc f p (n+1) (q+1)) _
   induction e2:gG B (at' p (n - 1)) (at' p n) using Oz with
   | true=>exact ⟨hp,aU _,aP _ _,h2,h3,h4⟩
   | false =>
    refine aa (if_neg (by simp) ..) ?_;have b1:=lL e;have b2:=lL e2
    exact (kS O f p (n+1) (q+1) hp wL (F9 h2) (Bu hN) (h3.snoc O h1 b2) (fun k ha hb=>by
     show B (at' p k) (at' p n)=true/\B (at' p n) (at' p k)=true;by_cases z:k=n
     ·subst z;exact ⟨O.refl _,O.refl _⟩
     ·have:=h4 k (F6 ha) (FX hb z);exact ⟨O.trans _ _ _ this.1 b1,O.trans _ _ _ b2 this.2⟩)).mono fun ζ=>i6.less
noncomputable abbrev yb (B:Nat->Nat->Bool) (N:Nat) (r:Nat×Array Nat):Prop:=Pm N r.2/\1<=r.1/\r.1<=N/\Up B r.2 r.1
theorem sP (O:po B) {p:Array Nat}{n:Nat}(h1:1<=n) (hn:n<=N) (hp:Pm N p) (h:ke B p n):Tr N (gG B) (kas_tail3 n N p) (yb B N):=by
 have hps:=hp.size;unfold kas_tail3;have hu:Up B (kas_rev p 0 n) n:=fun a b hab hb=>by
  refine aa (j7 (AE hn hps) ..) (aa (j7 (AE hn hps) ..) (aa (if_pos (AD hab hb) ..) (aa (if_pos (AB hb) ..) ?_)));exact h _ _ (FV hab) (AA hb)
 exact Tr.bind ((sy O (hp.rev 0 n) (N - n) n h1 (FU hn) hu).mono fun m ⟨b,c,d,_⟩=>⟨hp.rev 0 n,by lia,by lia,d⟩)
theorem kF (O:po B) {p:Array Nat}{n:Nat}(hn:n+1<=N) (hp:Pm N p) (h:ke B p (n+1)):Tr N (gG B) (kas_descPart n N p) (yb B N):=by
 unfold kas_descPart;refine Tr.bind ((kS O (N - (n+1)) p (n+1) 0 hp wL Bv (FT hn) h fun k ha hb=>?_).mono fun r hr=>?_)
 ·obtain rfl:k=n:=AF ha hb;exact ⟨O.refl _,O.refl _⟩
 ·obtain ⟨p',m,q'⟩:=r;refine xA hr fun b c d e g i=>?_;clear hr;dsimp only at b c d e g i;have hps:=b.size;show Tr N (gG B) (if q'>0 then kas_tail3 m N (kas_rev p' (m - (q'+1)) m) else kas_tail3 m N p') _;by_cases hq:q'>0
  ·refine aa (if_pos hq ..) ?_;exact sP O (Az e) (Ay hn d) (b.rev _ _) (qx O (FS hn d hps) i g (aU _))
  ·refine aa (if_neg hq ..) ?_;exact sP O (Az e) (Ay hn d) b g
theorem xG (O:po B) {p:Array Nat}(h1:1<=N) (hp:Pm N p):Tr N (gG B) (kas_count N p) (yb B N):=by
 have hps:=hp.size;unfold kas_count;refine Tr.bind ((sy O hp (N - 1) 1 (aU _) (FR h1) (Up.one O p)).mono fun n hn=>?_);refine ik hn fun b c d e=>?_;clear hn;show Tr N (gG B) (if (n==N)=true then KasT.ret (n,p) else if n>1 then KasT.ask (at' p 0) (at' p (n - 1)) fun c=>if c=true then KasT.ret (n,p) else kas_descPart n N (kas_rev p 0 n)
  else kas_descPart n N p) _
 by_cases q:n=N
 ·refine aa (if_pos (by simpa using q) ..) ?_;exact ⟨hp,by lia,by lia,d⟩
 ·refine aa (if_neg (by simpa using q) ..) ?_;have e':gG B (at' p n) (at' p (n - 1))=true:=e.resolve_left (FQ h1 q);by_cases q2:n>1
  ·refine aa (if_pos q2 ..) ?_;refine ⟨hp.at (FP h1),hp.at (FO c q2),?_⟩;show Tr N (gG B) (if gG B (at' p 0) (at' p (n - 1))=true then KasT.ret (n,p) else kas_descPart n N (kas_rev p 0 n)) _
   induction e2:gG B (at' p 0) (at' p (n - 1)) using Oz with
   | true=>exact ⟨hp,by lia,by lia,d⟩
   | false =>
    refine aa (if_neg (by simp) ..) ?_;have hb:=lL e2;have alike:∀ i j,i<n->j<n->B (at' p i) (at' p j)=true:=fun i j hi hj =>
     O.trans _ _ _ (d i (n - 1) (FN hi) (FM hj)) (O.trans _ _ _ hb (d 0 j Ax hj))
    exact kF O (n:=n) (FL c q q2) (hp.rev 0 n) (fun i j hij hj=>by
     refine aa (j7 (Aw hps c q2) ..) (aa (j7 (Aw hps c q2) ..) ?_);by_cases w1:j<n
     ·refine aa (if_pos (AB w1) ..) (aa (if_pos (AD hij w1) ..) ?_);exact alike _ _ (FK w1) (AA w1)
     ·obtain rfl:j=n:=Bx hj w1;refine aa (if_neg Av ..) ?_;by_cases w2:i=j
      ·subst w2;refine aa (if_neg Av ..) ?_;exact O.refl _
      ·refine aa (if_pos (FJ hij w2) ..) ?_;exact O.trans _ _ _ (O.lt e') (alike _ _ (FI q2) (FH q2)))
  ·refine aa (if_neg q2 ..) ?_;obtain rfl:n=1:=FG b q2;exact kF O (FE h1 q) hp ((ke.one O p).snoc O (aU _) (O.lt e'))
theorem lD (O:po B) {p:Array Nat}{k:Nat}(hp:Pm N p) (hk:k<N) (h:Up B p k):∀ (f l r:Nat),r - l<=f->l<=r->r<=k->(∀ i,i<l->B (at' p i) (at' p k)=true)->(∀ i,r<=i->i<k->B (at' p k) (at' p i)=true) ->
  Tr N (gG B) (kas_place p k f l r) fun l'=>l'<=k/\(∀ i,i<l'->B (at' p i) (at' p k)=true)/\(∀ i,l'<=i->i<k->B (at' p k) (at' p i)=true)
 | 0,l,r,hf,hlr,hr,h1,h2=>by
  obtain rfl:l=r:=FD hf hlr;exact ⟨hr,h1,h2⟩
 | f+1,l,r,hf,hlr,hr,h1,h2=>by
  show Tr N (gG B) (if l≥r then KasT.ret l else KasT.ask (at' p k) (at' p ((l+r) / 2)) fun c=>if c=true then kas_place p k f l ((l+r) / 2) else kas_place p k f ((l+r) / 2+1) r) _;by_cases q:l≥r
  ·refine aa (if_pos q ..) ?_;obtain rfl:l=r:=FC hlr q;exact ⟨hr,h1,h2⟩
  ·refine aa (if_neg q ..) ?_;refine ⟨hp.at hk,hp.at (FA hk hr q),?_⟩;show Tr N (gG B) (if gG B (at' p k) (at' p ((l+r) / 2))=true then kas_place p k f l ((l+r) / 2) else kas_place p k f ((l+r) / 2+1) r) _
   induction e:gG B (at' p k) (at' p ((l+r) / 2)) using Oz with
   | true =>
    refine aa (if_pos rfl ..) ?_;exact lD O hp hk h f l ((l+r) / 2) (Fz hf) (Fy q) (Fx hr q) h1 fun i a b=>O.trans _ _ _ (O.lt e) (h _ _ a b)
   | false =>
    refine aa (if_neg (by simp) ..) ?_;exact lD O hp hk h f ((l+r) / 2+1) r (Fw hf) (Fv q) hr (fun i a=>O.trans _ _ _ (h i ((l+r) / 2) (Fu a) (wI hr q)) (lL e)) h2
theorem xS (O:po B):∀ (f:Nat) (p:Array Nat) (k:Nat),k+f<=N->Pm N p->Up B p k->Tr N (gG B) (kas_bin f p k) fun p'=>Pm N p'/\Up B p' (k+f)
 | 0,p,k,_,hp,h=>⟨hp,h⟩
 | f+1,p,k,hk,hp,h=>by
  have hps:=hp.size;have hk':k<p.size:=Ft hk hps;show Tr N (gG B) ((kas_place p k k 0 k).bind fun l=>kas_bin f (bubble p k (k - l)) (k+1)) _;refine Tr.bind ((lD O hp (Ex hk) h k 0 k Fs Ax (aU _) (fun i hi=>by lia) fun i h1 h2=>by lia).mono fun l ⟨b,c,d⟩=>?_);have hu:Up B (bubble p k (k - l)) (k+1):=fun i j hij hj=>by
   refine aa (nW (d:=k - l) hk' Au ..) (aa (nW (d:=k - l) hk' Au ..) (aa (show k - (k - l)=l by exact Fp b ..) ?_))
   repeat' split
   all_goals first
    | (exfalso;(first | exact Fo hij hj ‹_› ‹_› ‹_› | exact Fn hij ‹_› ‹_› | exact Fm hij hj ‹_› ‹_›))
    | exact O.refl _
    | exact c _ (Fk hij ‹_› ‹_›)
    | exact d _ (Fj ‹_›) (Iz ‹_›)
    | exact h _ _ (by (first | exact Fi hij | exact Fh hij ‹_› ‹_› | exact BH hij)) (by (first | exact Iz ‹_› | exact Fg b hj ‹_› ‹_›))
  refine (xS O f (bubble p k (k - l)) (k+1) (Bu hk) (Array.Perm.trans (bubble_perm _ _ _) hp) hu).mono fun p' ⟨y,z⟩=>⟨y,?_⟩;refine aa (show k+(f+1)=k+1+f by exact Ep ..) ?_;exact z
theorem yD (O:po B) (h1:1<=N):Tr N (gG B) (kas_sort N) fun p=>Pm N p/\Up B p N:=by
 unfold kas_sort;refine Tr.bind ((xG O (p:=List.toArray (List.range N)) h1 (.refl _)).mono fun r hr=>?_);obtain ⟨m,p⟩:=r;refine ik hr fun b c d e=>?_;clear hr;dsimp only at b c d e;show Tr N (gG B) (if m<N then kas_bin (N - max m 1) p (max m 1) else KasT.ret p) _;by_cases q:m<N
 ·refine aa (if_pos q ..) ?_;have hm:max m 1=m:=Ff c;refine aa (hm ..) ?_;refine (xS O (N - m) p m (Fd q) b e).mono fun p' ⟨y,z⟩=>⟨y,?_⟩;rw [show m+(N - m)=N by exact E9 q] at z;exact z
 ·refine aa (if_neg q ..) ?_;obtain rfl:m=N:=Es d q;exact ⟨b,e⟩
end
theorem gU:∀ (a b:List Int),cu a b=true\/cu b a=true
 | [],_=>.inl rfl
 | _::_,[]=>.inr rfl
 | a::r,b::t=>by
  unfold cu;by_cases h:a=b
  ·subst h;simp only [if_true];exact gU r t
  ·refine aa (if_neg h ..) (aa (if_neg (Ne.symm h) ..) ?_);simp only [decide_eq_true_eq];exact E8 h
theorem gT:∀ (a b c:List Int),cu a b=true->cu b c=true->cu a c=true
 | [],_,_,_,_=>by unfold cu;rfl
 | _::_,[],_,h,_=>by simp [cu] at h
 | _::_,_::_,[],_,h=>by simp [cu] at h
 | a::r,b::t,c::u,h1,h2=>by
  unfold cu at h1 h2 ⊢;by_cases h:a=b
  ·subst h;rw [if_pos rfl] at h1;by_cases h':a=c
   ·subst h';rw [if_pos rfl] at h2 ⊢;exact gT r t u h1 h2
   ·rw [if_neg h'] at h2 ⊢;exact h2
  ·rw [if_neg h] at h1;by_cases h':b=c
   ·subst h';refine aa (if_neg h ..) ?_;exact h1
   ·rw [if_neg h'] at h2;simp only [decide_eq_true_eq] at h1 h2;refine aa (if_neg (E7 h1 h2) ..) ?_;simp only [decide_eq_true_eq];exact E6 h1 h2
theorem gV:∀ (a b:List Int),cu a b=true->cu b a=true->a=b
 | [],[],_,_=>rfl
 | [],_::_,_,h=>by simp [cu] at h
 | _::_,[],h,_=>by simp [cu] at h
 | a::r,b::t,h1,h2=>by
  unfold cu at h1 h2;by_cases h:a=b
  ·subst h;rw [if_pos rfl] at h1 h2;exact aa (gV r t h1 h2 ..) rfl
  ·rw [if_neg h] at h1;rw [if_neg (Ne.symm h)] at h2;simp only [decide_eq_true_eq] at h1 h2;lia
theorem iO {α:Type}(le:α->α->Bool) (x:α):∀ l:List α,(eY le x l).Perm (x::l)
 | []=>.refl _
 | y::r=>by
  unfold eY
  split
  ·exact .refl _
  ·exact ((iO le x r).cons y).trans (.swap _ _ _)
theorem lT {α:Type}(le:α->α->Bool):∀ l:List α,(cP le l).Perm l
 | []=>.refl _
 | x::r=>(iO le x _).trans ((lT le r).cons x)
theorem jx {α:Type}{le:α->α->Bool}(ht:∀ a b,le a b=true\/le b a=true) (htr:∀ a b c,le a b=true->le b c=true->le a c=true) (x:α) :
  ∀ l:List α,l.Pairwise (fun a b=>le a b=true)->(eY le x l).Pairwise (fun a b=>le a b=true)
 | [],_=>.cons (fun ζ h=>by simp at h) .nil
 | y::r,h=>by
  unfold eY;rw [List.pairwise_cons] at h
  split
  ·rename_i hxy;refine .cons (fun z hz=>?_) (List.pairwise_cons.mpr h);rcases List.mem_cons.mp hz with rfl | hz
   ·exact hxy
   ·exact htr _ _ _ hxy (h.1 z hz)
  ·rename_i hxy;refine .cons (fun z hz=>?_) (jx ht htr x r h.2);rcases List.mem_cons.mp ((iO le x r).mem_iff.mp hz) with rfl | hz
   ·exact (ht _ _).resolve_left hxy
   ·exact h.1 z hz
theorem jv {α:Type}{le:α->α->Bool}(ht:∀ a b,le a b=true\/le b a=true) (htr:∀ a b c,le a b=true->le b c=true->le a c=true) :
  ∀ l:List α,(cP le l).Pairwise (fun a b=>le a b=true)
 | []=>.nil
 | x::r=>jx ht htr x _ (jv ht htr r)
theorem qj {α:Type}{le:α->α->Bool}(ht:∀ a b,le a b=true\/le b a=true) (htr:∀ a b c,le a b=true->le b c=true->le a c=true)
  (ha:∀ a b,le a b=true->le b a=true->a=b) {l l':List α}(hp:l'.Perm l) (hs:l'.Pairwise (fun a b=>le a b=true)):l'=cP le l :=
 List.Perm.eq_of_pairwise (fun a b ζ ζ=>ha a b) hs (jv ht htr l) (hp.trans (lT le l).symm)
theorem uA {l l':List (List Int)}(hp:l'.Perm l) (hs:l'.Pairwise (fun a b=>cu a b=true)):l'=cP cu l:=qj gU gT gV hp hs
theorem uB {l l':List Int}(hp:l'.Perm l) (hs:l'.Pairwise (·<=·)):l'=cP (fun x y=>decide (x<=y)) l :=
 qj (fun a b=>by simp only [decide_eq_true_eq];exact E5) (fun a b c=>by simp only [decide_eq_true_eq];exact E4) (fun a b=>by simp only [decide_eq_true_eq];exact E3) hp (hs.imp fun h=>by simpa using h)
section
variable {prog:Program}{w:World}{K:Frag}{base:Heap}{c:d8}{X:Addr->Prop}{μ μ':Mu}{s s':Shared}{Z Z' Z1:ag}{ρ:aL}{env:Env}{A:Around}{E:Value->Shared->Prop}{d e da:V}
theorem wQ {b cL:Bool}{Q:Bool->Shared->Prop}{vs ws:List Value}{xs ys:List Int}(i:Nat) (r:IntsAre vs xs) (r':IntsAre ws ys) (hf:cL=decide (xs.length<ys.length)) (h:Q (!cu ys xs) s):KatLex prog w A b cL Q (vs.zip ws) i s:=by
 induction r generalizing ws ys i with
 | nil=>subst hf;induction r' using IntsAre.casesOn<;>exact kat_nil h
 | cons n t r ih =>
  induction r' using IntsAre.casesOn with
  | nil=>subst hf;exact kat_nil h
  | cons n' t' r' =>
  refine kat_cons (wpAny_eqBool_int ?_);by_cases hn:n=n'
  ·subst hn;refine aa (beq_self_eq_true ..) ?_;refine kat_yes (ih (i+1) r' (by refine aa (hf ..) ?_;simp) ?_);simpa [cu] using h
  ·refine aa (beq_eq_false_iff_ne.mpr hn ..) ?_;have hq:∀ u v:List Int,(!cu (n'::u) (n::v))=decide (n<n'):=fun u v=>by
    unfold cu;refine aa (if_neg (Ne.symm hn) ..) ?_;by_cases z:n<n'
    ·refine aa (aA z ..) (aa (decide_eq_false (E2 z) ..) ?_);rfl
    ·refine aa (decide_eq_false z ..) (aa (aA (E1 hn z) ..) ?_);rfl
   rw [hq] at h;refine kat_no ?_;generalize (b&&i==0)=z0
   induction z0 using Oz with
   | true=>exact oneLt_int h
   | false=>exact kat_one _ _ (lt_int h)
theorem qB {a:Addr}{vs:List Value}{n:Nat}{T:String}{Q:List Value->Shared->Prop}(hT:T= "list" \/T= "tuple") (ha:s.heap.get? a=some (seqObj T vs.toArray n))
  (h:Q vs { s with heap:=(s.heap.push (seqObj "list" #[] 0)).update s.heap.objs.size (Obj.mapSeq (·++vs.toArray)) }) (hsz:vs.length<=sizeLine):wpAny (model prog w) A (collect (.ref a)) Q E s:=by
 unfold collect;refine ab (wpAny_runValue (codeAny_builtin entry_proto_collect' ?_));show wpAny _ _ (do again (.builtin "list.__iadd__" ⟨[← newList [],.ref a],[]⟩)) _ _ s;refine ab (wpAny_newList (av ⟨Code.quiet_builtin _ (by decide +kernel),codeAny_builtin entry_list_iadd' ?_⟩));show wpAny _ _ (Builtin.List.listExtendWith (.ref s.heap.objs.size) (.ref a) (.ref s.heap.objs.size)) _ _ { s with heap:=s.heap.push (seqObj "list" #[] 0) };unfold Builtin.List.listExtendWith;have ho':(s.heap.push (seqObj "list" #[] 0)).get? a=some (seqObj T vs.toArray n):=ak _ ha;refine ab (wpAny_typeOf (T:=T) ⟨_,ho',rfl⟩ ?_);have h1:(Builtin.List.listSameRef (.ref s.heap.objs.size) (.ref a)||Value.type T==Value.type "list" ||Value.type T==Value.type "tuple")=true:=by
  rcases hT with rfl | rfl<;>simp
 simp only [h1,if_true];refine ab (listItems_at ho' rfl ?_);refine ab (listItems_at (xs:=#[]) (n:=0) (aW _ rfl) rfl ?_);refine aa (if_neg (by simp) ..) ?_;refine ab (listUpdate_at (xs:=#[]) (n:=0) (aW _ rfl) rfl ?_ (Nat.zero_le _) (by show (#[]++vs.toArray).size<=sizeLine+1;simp only [Array.size_append,aC,List.length_nil];exact EY hsz));refine av ?_;show wpAny (model prog w) A (do
   let o ← load s.heap.objs.size
   match o.data with
   | .seq xs _=>pure xs.toList
   | _=>unsupported "internal:collect") Q E { s with heap:=(s.heap.push (seqObj "list" #[] 0)).update s.heap.objs.size (Obj.mapSeq (·++vs.toArray)) }
 refine ab (wpAny_load (get?_update_seq (aW _ rfl) _) ?_);show wpAny _ _ (pure ((#[]:Array Value)++vs.toArray).toList) Q E _;rw [show ((#[]:Array Value)++vs.toArray).toList=vs by simp];exact av h
noncomputable def gD (h:Heap) (vs:List Value) (ts:List (List Int)):Prop:=vs.length=ts.length/\∀ (i:Nat) (v:Value) (t:List Int),vs[i]?=some v->ts[i]?=some t->∃ (a:Addr) (xs:Array Value) (n:Nat),v=Value.ref a/\h.get? a=some (seqObj "tuple" xs n)/\IntsAre xs.toList t
theorem wT {l:List V}:∀ {a:List Int},c7 l=some a->l=a.map .int:=by
 induction l with
 | nil=>exact fun h=>bp h rfl
 | cons x l ih =>
  intro a h
  induction x using V.casesOn with
  | int j=>exact eu h fun b h1 h2=>h2▸congrArg (List.cons _) (ih h1)
  | _=>exact aw h
theorem vr {l:List V}{vs:List Value}{ts:List (List Int)}(r:aG X μ s.heap l vs) (h:cS l=some ts):gD s.heap vs ts/\l=ts.map fun t=>.tup (t.map .int) :=
 aG.ind r (P:=fun l vs=>∀ ts,cS l=some ts->gD s.heap vs ts/\l=ts.map fun t=>.tup (t.map .int)) (fun ts h=>bp h ⟨⟨rfl,fun i v t h=>aw h⟩,rfl⟩) (fun d v ds vs r ζ ih ts h=>by
  induction d using V.casesOn with
  | tup l' =>
   refine dv h fun a h1 h2=>eu h2 fun b h3 zz=>?_;subst zz;refine cM r.view fun ad vs' n zz nb ht rl=>?_;subst zz;refine bl (ih b h3) fun i0 i3=>?_;refine ⟨⟨congrArg Nat.succ i0.1,fun i=>Nat.casesOn i (fun v t' e1 e2=>bp e1 (bp e2 ⟨ad,_,n,rfl,ht,by simpa using jw rl h1⟩)) i0.2⟩,?_⟩;rw [List.map_cons,← i3,← wT h1]
  | _=>exact aw h) ts h
theorem gD.keep {h h':Heap}{vs:List Value}{ts:List (List Int)}(q:gD h vs ts) (hk:∀ a o,h.get? a=some o->h'.get? a=some o):gD h' vs ts :=
 ⟨q.1,fun i v t e1 e2=>dm (q.2 i v t e1 e2) fun a xs n h1 h2 h3=>⟨a,xs,n,h1,hk _ _ h2,h3⟩⟩
theorem gD.kat {h:Heap}{vs:List Value}{ts:List (List Int)}(q:gD h vs ts) (he:(ts.all fun t=>!t.isEmpty)=true):∃ fs,KatTups h vs fs/\fs.length=vs.length/\∀ v∈fs,∃ i t,v=.int i t:=by
 induction vs generalizing ts with
 | nil=>exact ⟨[],KatTups.nil,rfl,nofun⟩
 | cons v vs ih =>
  induction ts using OA with
  | nil=>exact nomatch q.1
  | cons t ts =>
  have he:=bF he;refine bH (ih (ts:=ts) ⟨by have:=q.1;simpa using this,fun i v' t' e1 e2=>q.2 (i+1) v' t' (by simpa using e1) (by simpa using e2)⟩ he.2) fun fs f1 f2 f3=>?_;refine dm (q.2 0 v t (by simp) (by simp)) fun a xs n Q0 h2 h3=>?_;subst Q0;obtain ⟨xs⟩:=xs
  cases h3 with
  | nil=>simp at he
  | cons i tk r=>exact ⟨.int i tk::fs,KatTups.cons h2 rfl rfl (by simp) f1,by simp [f2],fun v hv=>by
    rcases List.mem_cons.mp hv with rfl | hv
    ·exact ⟨i,tk,rfl⟩
    ·exact f3 v hv⟩
noncomputable def qg (ts:List (List Int)) (i j:Nat):Bool:=cu (ts.getD i []) (ts.getD j [])
theorem qf (ts:List (List Int)):po (qg ts):=⟨fun ζ ζ ζ=>gT _ _ _,fun ζ ζ=>gU _ _⟩
theorem x6 {vs:List Value}{ts:List (List Int)}{b:Bool}(q:gD s.heap vs ts) {i j:Nat}{C:Bool->Shared->Prop}(hi:i<ts.length) (hj:j<ts.length) (h:C (gG (qg ts) i j) s) :
  kas_ask prog w A (tuples' b) vs i j C s:=by
 unfold kas_ask;have hl:=q.1;have ei:vs.getD i Value.none=vs[i]'(zg hi hl):=by simp [List.getD,au (show i<vs.length by exact zg hi hl)]
 have ej:vs.getD j Value.none=vs[j]'(zg hj hl):=by simp [List.getD,au (show j<vs.length by exact zg hj hl)]
 refine dm (q.2 i _ _ (au (zg hi hl)) (au hi)) fun a xs n e1 h1 I1=>?_;refine dm (q.2 j _ _ (au (zg hj hl)) (au hj)) fun a' ys n' e2 h2 I2=>?_;refine aa (ei ..) (aa (ej ..) (aa (e1 ..) (aa (e2 ..) ?_)));refine kat_lt h1 rfl h2 rfl (wQ 0 I1 I2 ?_ ?_)
 ·have l1:=I1.length;have l2:=I2.length;refine aa (aH (l1 ..)) (aa (aH (l2 ..)) ?_);rfl
 ·have g1:ts.getD i []=ts[i]:=by simp [List.getD,au hi]
  have g2:ts.getD j []=ts[j]:=by simp [List.getD,au hj]
  unfold gG qg at h;rw [g1,g2] at h;exact h
noncomputable def pick {α:Type}(z:α) (p:Array Nat) (l:List α):List α:=p.toList.map fun i=>l.getD i z
theorem uo {α:Type}{z:α}{p:Array Nat}{l:List α}(hp:Pm l.length p):(pick z p l).Perm l:=by
 have h1:(pick z p l).Perm ((List.range l.length).map fun i=>l.getD i z):=(Array.perm_iff_toList_perm.mp hp).map _;refine h1.trans (List.Perm.of_eq ?_)
 apply List.ext_getElem?
 intro i;by_cases h:i<l.length
 ·simp [h,List.getD]
 ·simp [h]
theorem pP {p:Array Nat}{ts:List (List Int)}(hp:Pm ts.length p) (hu:Up (qg ts) p ts.length):(pick [] p ts).Pairwise fun a b=>cu a b=true:=by
 rw [List.pairwise_iff_getElem];intro i j hi hj hij;have hs:=hp.size;have hl:(pick [] p ts).length=ts.length:=by unfold pick;exact aa (ah ..) (aa (Array.length_toList ..) (aa (hs ..) rfl))
 have e:∀ k (hk:k<(pick [] p ts).length),(pick [] p ts)[k]=ts.getD (at' p k) []:=fun k hk=>by
  have:(pick [] p ts)[k]?=some (ts.getD (at' p k) []):=by
   unfold pick;refine aa (List.getElem?_map ..) (aa (mG ..) (aa (Array.getElem?_toList ..) (aa (Array.getElem?_eq_getElem (EX hs hl hk) ..) ?_)));rfl
  rw [au hk] at this;exact aq this
 refine aa (e ..) (aa (e ..) ?_);exact hu i j (EW hij) (EV hj hl)
theorem aG.pick {l:List V}{vs:List Value}(r:aG X μ s.heap l vs) {p:Array Nat}(hp:Pm l.length p):aG X μ s.heap (Mine.pick .none p l) (Mine.pick .none p vs):=by
 have hl:=r.length;have:∀ is:List Nat,(∀ i∈is,i<l.length)->aG X μ s.heap (is.map fun i=>l.getD i .none) (is.map fun i=>vs.getD i .none):=by
  intro is
  induction is with
  | nil=>intro _;exact .nil
  | cons i is ih =>
   intro h;have hi:=h i (.head _);refine aB (r.get (au hi)) fun v e1 e2=>?_;refine .cons ?_ (ih fun j hj=>h j (.tail _ hj));have g1:l.getD i .none=l[i]:=by simp [List.getD,au hi]
   have g2:vs.getD i .none=v:=by simp [List.getD,e1]
   show bh X μ s.heap (l.getD i .none) (vs.getD i .none);refine aa (g1 ..) (aa (g2 ..) ?_);exact e2
 refine this _ fun i hi=>?_;have:=(Array.perm_iff_toList_perm.mp hp).mem_iff.mp hi;simpa using this
theorem wf {α β:Type}{z:α}{z':β}(f:α->β) {p:Array Nat}{l:List α}(hp:Pm l.length p):Mine.pick z' p (l.map f)=(Mine.pick z p l).map f:=by
 unfold Mine.pick;refine aa (List.map_map ..) ?_;refine List.map_congr_left fun i hi=>?_;have hi:i<l.length:=by simpa using (Array.perm_iff_toList_perm.mp hp).mem_iff.mp hi
 simp [List.getD,au hi]
set_option maxHeartbeats 4000000 in
theorem lu {a:Addr}{vs:List Value}{ts:List (List Int)}{n:Nat}{P:PySem.Fin->Shared->Prop}(ho:s.heap.get? a=some (seqObj "list" vs.toArray n)) (q:∀ h',(∀ b o,b≠a->s.heap.get? b=some o->h'.get? b=some o)->gD h' vs ts)
  (hne:(ts.all fun t=>!t.isEmpty)=true) (h64:vs.length<64)
  (h:∀ h' p c',(∀ b o,b≠a->s.heap.get? b=some o->h'.get? b=some o)->Pm ts.length p->Up (qg ts) p ts.length->h'.get? a=some (seqObj "list" (pick .none p vs).toArray c')->P (.done (.ret .none)) { s with heap:=h' }) :
  wpAny (model prog w) A (Builtin.«list.sort» ⟨[.ref a],[]⟩) P E s:=by
 have ha:a<s.heap.objs.size:=Heap.lt_size ho;have hlen:=(q _ fun b o ζ e=>e).1;refine aa (list_sort_plain ..) ?_;refine ab (listItems_at ho rfl ?_);refine ab (listUpdate_at ho rfl ?_ (by refine aa (aC ..) (aa (sizeLine_eq ..) ?_);exact At h64) (Nat.zero_le _));obtain ⟨e1,ho1⟩:∃ e1,(s.heap.update a (Obj.mapSeq fun ζ=>(#[]:Array Value))).get? a=some (seqObj "list" #[] e1):=⟨_,get?_update_seq ho fun ζ=>#[]⟩;refine ab (seqEpoch_at ho1 rfl ?_);refine ab (wpAny_newTuple ?_ (by show vs.length<=_;refine aa (sizeLine_eq ..) ?_;exact At h64));refine ab (wpAny_newList ?_ (Nat.zero_le _));refine wpAny_holding ?_;have hoth:∀ b o,b≠a->s.heap.get? b=some o->(((s.heap.update a (Obj.mapSeq fun ζ=>(#[]:Array Value))).push (seqObj "tuple" vs.toArray 0)).push (seqObj "list" #[] 0)).get? b=some o:=fun b o hb e =>
  ak _ (ak _ ((Heap.get?_update_other _ _ (Ne.symm hb)).trans e))
 have ho6:(((s.heap.update a (Obj.mapSeq fun ζ=>(#[]:Array Value))).push (seqObj "tuple" vs.toArray 0)).push (seqObj "list" #[] 0)).get? a=some (seqObj "list" #[] e1):=ak _ (ak _ ho1);generalize hH:((s.heap.update a (Obj.mapSeq fun ζ=>(#[]:Array Value))).push (seqObj "tuple" vs.toArray 0)).push (seqObj "list" #[] 0)=H at hoth ho6;show wpAny (model prog w) A _ P E { s with heap:=H };dsimp only;have cL:∀ (p:Array Nat),Pm ts.length p->Up (qg ts) p ts.length->P (.done (.ret .none)) { s with heap:=H.update a (Obj.mapSeq fun ζ=>(pick .none p vs).toArray) }:=fun p h1 h2=>by
  obtain ⟨c2,hc2⟩:∃ c2,(H.update a (Obj.mapSeq fun ζ=>(pick .none p vs).toArray)).get? a=some (seqObj "list" (pick .none p vs).toArray c2):=⟨_,get?_update_seq ho6 fun ζ=>(pick .none p vs).toArray⟩;exact h _ p c2 (fun b o hb e=>(Heap.get?_update_other _ _ (Ne.symm hb)).trans (hoth b o hb e)) h1 h2 hc2
 by_cases hn2:vs.toArray.size<2
 ·refine aa (if_pos hn2 ..) (aa (if_pos hn2 ..) ?_);refine ab (av ?_);refine aa (StateT.run_pure ..) ?_;refine ab (av ?_);dsimp only;have ev:(arrOf (SortSt.mk' general' (vs.toArray.zip vs.toArray) #[] 7 none)).map (·.2)=(pick .none (List.toArray (List.range ts.length)) vs).toArray:=by
   apply Array.toList_inj.mp
   show ((vs.toArray.zip vs.toArray).map (·.2)).toList=_;unfold pick;refine aa (Array.toList_map ..) (aa (ksk_zip ..) (aa (aH (hlen ..)) ?_))
   apply List.ext_getElem?
   intro i;by_cases hi:i<vs.length
   ·simp [hi,List.getD]
   ·simp [hi]
  rw [ev];have hps:(pick Value.none (List.toArray (List.range ts.length)) vs).toArray.size=vs.length:=by unfold pick;simp [hlen]
  refine ab (seqEpoch_at ho6 rfl ?_);refine ab (listUpdate_at ho6 rfl ?_ (Nat.zero_le _) (af (Nat.le_of_eq hps) (by exact aa (sizeLine_eq ..) (As h64))));simp only [bne_self_eq_false,Bool.false_eq_true,if_false];refine av (cL _ (.refl _) fun i j hij hj=>?_);have:ts.length<2:=by refine aa (aH (hlen ..)) ?_;simpa using hn2
  obtain rfl:i=j:=EU hij hj this;exact (qf ts).refl _
 ·refine aa (if_neg hn2 ..) (aa (if_neg hn2 ..) ?_);have h2:2<=vs.length:=by simpa using hn2
  have qH:=q H hoth;refine bH (qH.kat hne) fun fs f1 f2 f3=>?_;refine ab (kat_kind (s:={ s with heap:=H }) f1 (ET h2 f2) (T:=.type "int") (fun v hv=>by refine rV (f3 v hv) fun i t Q0=>?_;subst Q0;exact Looks.of_pure rfl) rfl ?_);refine ab (az (kat_run (s:={ s with heap:=H }) (ks:=vs) (vs:=vs)
   (Q:=fun st' s'=>∃ p:Array Nat,p.size=vs.length/\arrOf st'=p.map (kas_item (vs.toArray.zip vs.toArray))/\failedOf st'=none/\((Pm vs.length p/\Up (qg ts) p vs.length)/\s'={ s with heap:=H }))
   rfl h2 h64 (fun p' st' s' a1 a2 a3 a4=>⟨p',a1,a2,a3,a4⟩) (Tr.wp (N:=vs.length) (lt:=gG (qg ts)) (fun i j C hi hj hc=>x6 (ts:=ts) qH (hlen▸hi) (hlen▸hj) hc) (yD (qf ts) (Nat.le_of_succ_le h2)))) ?_ fun ζ ζ e=>e)
  rintro ⟨⟨⟩,st'⟩ s' ⟨p,hp,har,hf,⟨hpm,hup⟩,rfl⟩
  dsimp only;have hout:=kat_snds rfl har;have hout':(arrOf st').map (·.2)=(pick .none p vs).toArray:=hout;refine aa (hout' ..) ?_;have hsz:(pick Value.none p vs).toArray.size=vs.length:=by unfold pick;exact aa (aC ..) (aa (ah ..) (aa (Array.length_toList ..) (aa (hp ..) rfl)))
  refine ab (seqEpoch_at ho6 rfl ?_);refine ab (listUpdate_at ho6 rfl ?_ (Nat.zero_le _) (af (Nat.le_of_eq hsz) (by exact aa (sizeLine_eq ..) (As h64))));refine aa (hf ..) ?_;simp only [bne_self_eq_false,Bool.false_eq_true,if_false];rw [hlen] at hpm hup;exact av (cL p hpm hup)
theorem kq {a:Addr}{vs:List Value}{l:List V}{ts:List (List Int)}{n:Nat}{T:String}(hT:T= "list" \/T= "tuple") (H:aS prog w X μ s.heap base Z) (ha:s.heap.get? a=some (seqObj T vs.toArray n)) (r:aG X μ s.heap l vs) (e:cS l=some ts)
  (hne:(ts.all fun t=>!t.isEmpty)=true) (h64:l.length<64) :
  wpAny (model prog w) A (call (.builtin "sorted") [.ref a]) (Res prog w base X μ s Z (.lst ((cP cu ts).map fun t=>.tup (t.map .int)))) E s:=by
 have hlen:=r.length;refine bl (vr r e) fun q hl=>?_;refine Calls.call_function_entry kind_sorted plain_sorted entry_sorted (args_sorted1 _) ?_;unfold Builtin.«sorted»;refine ab (m:=checkCount "sorted" 1 1 _) (av ?_);refine ab (qB hT ha ?_ (by exact aa (sizeLine_eq ..) (Ar h64 hlen)));refine ab (wpAny_newList ?_ (by exact aa (sizeLine_eq ..) (Ar h64 hlen)));have hsz:((s.heap.push (seqObj "list" #[] 0)).update s.heap.objs.size (Obj.mapSeq (·++vs.toArray))).objs.size=s.heap.objs.size+1:=by
  exact aa (Heap.size_update ..) (aa (size_push' ..) rfl)
 have hoL:(((s.heap.push (seqObj "list" #[] 0)).update s.heap.objs.size (Obj.mapSeq (·++vs.toArray))).push (seqObj "list" vs.toArray 0)).get? (s.heap.objs.size+1)=some (seqObj "list" vs.toArray 0):=by
  refine aa (aH (hsz ..)) ?_;exact aW _ rfl
 have keep:∀ b o,s.heap.get? b=some o->(((s.heap.push (seqObj "list" #[] 0)).update s.heap.objs.size (Obj.mapSeq (·++vs.toArray))).push (seqObj "list" vs.toArray 0)).get? b=some o:=fun b o q=>by
  have hlt:b<s.heap.objs.size:=Heap.lt_size q;exact ak _ ((Heap.get?_update_other _ _ (Nat.ne_of_gt hlt)).trans (ak _ q))
 show wpAny _ _ _ _ _ { s with heap:=((s.heap.push (seqObj "list" #[] 0)).update s.heap.objs.size (Obj.mapSeq (·++vs.toArray))).push (seqObj "list" vs.toArray 0) };refine aa (hsz ..) ?_;generalize hH:(((s.heap.push (seqObj "list" #[] 0)).update s.heap.objs.size (Obj.mapSeq (·++vs.toArray))).push (seqObj "list" vs.toArray 0))=H1 at hoL keep;have ne:∀ b o,s.heap.get? b=some o->b≠s.heap.objs.size+1:=fun b o e=>Nat.ne_of_lt (Nat.lt_succ_of_lt (Heap.lt_size e));refine ab (wpAny_holding (wpAny_call_entry slot_list_sort ⟨_,hoL,rfl⟩ entry_list_sort (lu (s:={ s with heap:=H1 }) hoL (fun h' hk=>q.keep fun b o e=>hk b o (ne b o e) (keep b o e)) hne (Aq h64 hlen) fun h' p c' hk hp hu ha'=>⟨_,rfl,?_⟩) (args_list_sort _)));refine av ⟨_,rfl,?_⟩;have hk':∀ b o,s.heap.get? b=some o->h'.get? b=some o:=fun b o e=>hk b o (ne b o e) (keep b o e);have hn:s.heap.get? (s.heap.objs.size+1)=none:=by
  induction e:s.heap.get? (s.heap.objs.size+1) using Oy with
  | none=>rfl
  | some o=>exact absurd (Heap.lt_size e) (Nat.not_lt_of_le (Nat.le_succ _))
 have hpl:Pm l.length p:=by refine aa (aH (hlen ..)) (aa (q.1 ..) ?_);exact hp
 have rr:=(r.pick hpl).mono (h':=h') (fun a o ζ e=>hk' a o e) (fc.refl μ _) (fun ζ x=>.inl x);have:pick V.none p l=(cP cu ts).map fun t=>.tup (t.map .int):=by
  refine aa (aH (uA (uo (z:=[]) hp) (pP hp hu) ..)) (aa (hl ..) ?_);exact wf (z:=[]) (fun t=>V.tup (t.map .int)) hp
 rw [this] at rr;exact Res.listAt H hk' hn ha' rr
theorem rn {a:Addr}{vs:List Value}{l:List V}{ts:List Int}{n:Nat}(H:aS prog w X μ s.heap base Z) (ha:IsL s.heap a vs.toArray n) (r:aG X μ s.heap l vs) (e:c7 l=some ts) (h64:l.length<64) :
  wpAny (model prog w) A (call (.builtin "sorted") [.ref a]) (Res prog w base X μ s Z (.lst ((cP (fun x y=>decide (x<=y)) ts).map .int))) E s:=by
 have hlen:=r.length;refine sorted_ints (eg ha) (jw r e) (Aq h64 hlen) fun out ns' h1 h2 h3=>?_;refine aa (aH (uB h2 h3 ..)) ?_;have hk:∀ b o,s.heap.get? b=some o->(sortedAll s.heap vs out).get? b=some o:=fun b o e=>by
  have hlt:=Heap.lt_size e;unfold sortedAll sortedHeap;refine (Heap.get?_update_other _ _ (Nat.ne_of_gt (Nat.lt_succ_of_lt hlt))).trans (ak _ (ak _ ((Heap.get?_update_other _ _ (Nat.ne_of_gt (Nat.lt_succ_of_lt hlt))).trans (ak _ ((Heap.get?_update_other _ _ (Nat.ne_of_gt hlt)).trans (ak _ e))))))
 have hn:s.heap.get? (s.heap.objs.size+1)=none:=by
  induction e:s.heap.get? (s.heap.objs.size+1) using Oy with
  | none=>rfl
  | some o=>exact absurd (Heap.lt_size e) (Nat.not_lt_of_le (Nat.le_succ _))
 obtain ⟨c',hc⟩:∃ c',(sortedAll s.heap vs out).get? (s.heap.objs.size+1)=some (seqObj "list" out c'):=by
  unfold sortedAll sortedHeap;have hsz:((s.heap.push (seqObj "list" #[] 0)).update s.heap.objs.size (Obj.mapSeq (·++vs.toArray))).objs.size=s.heap.objs.size+1:=by
   exact aa (Heap.size_update ..) (aa (size_push' ..) rfl)
  have h1:(((s.heap.push (seqObj "list" #[] 0)).update s.heap.objs.size (Obj.mapSeq (·++vs.toArray))).push (seqObj "list" vs.toArray 0)).get? (s.heap.objs.size+1)=some (seqObj "list" vs.toArray 0):=by
   refine aa (aH (hsz ..)) ?_;exact aW _ rfl
  exact ⟨_,get?_update_seq (ak _ (ak _ (get?_update_seq h1 fun ζ=>#[]))) fun ζ=>out⟩
 have:out=out.toList.toArray:=by simp
 rw [this] at hc;exact Res.listAt H hk hn hc (vW h1)
theorem kB {h:Heap}{a:Int}{n:Nat}{acc:Array Value}(q:ItemsOf (fun i v=>∃ t,v=.int (a+i*1) t) acc n):aG X μ h ((List.range n).map fun i:Nat=>V.int (a+(i:Int))) acc.toList:=by
 refine bl q fun hsz hit=>?_;clear q;have:∀ (vs:List Value) (k:Nat),(∀ (i:Nat) v,vs[i]?=some v->∃ t,v=.int (a+((k+i:Nat):Int)*1) t)->aG X μ h ((List.range' k vs.length).map fun i:Nat=>V.int (a+(i:Int))) vs:=by
  intro vs
  induction vs with
  | nil=>intro _ _;exact .nil
  | cons v vs ih =>
   intro k hk;refine aa (aR ..) (aa (List.range'_succ ..) (aa (List.map_cons ..) ?_));refine be (hk 0 v rfl) fun t Q0=>?_;subst Q0;refine .cons ?_ (ih (k+1) fun i v' e=>?_)
   ·have:(a+((k+0:Nat):Int)*1)=a+(k:Int):=Gn;refine aa (this ..) ?_;exact .int _ _
   ·refine be (hk (i+1) v' (by simpa using e)) fun t e'=>?_;exact ⟨t,by refine aa (e' ..) ?_;congr 2;exact Gm⟩
 have:=this acc.toList 0 fun i v e=>by
  refine be (hit i v (by simpa using e)) fun t e'=>?_;exact ⟨t,by refine aa (e' ..) ?_;congr 2;exact Gl⟩
 rw [Array.length_toList,hsz] at this;refine aa (List.range_eq_range' ..) ?_;exact this
theorem tB {h:Heap}{a:Addr}{xs ys:Array Value}{n m:Nat}(h1:IsT h a xs n) (h2:IsL h a ys m):False:=by
 have:=h1.symm.trans h2;simp at this
theorem nE {f:V->Option V}{vs:List V}{args:List Value}{h:Heap}(rs:aG X μ h vs args) {g:List V->Option V}(e1:∀ v,g [v]=f v) (e0:g []=none) (e2:∀ v w r,g (v::w::r)=none) (q:g vs=some d):∃ v u,args=[u]/\bh X μ h v u/\f v=some d:=by
 induction vs using OA with
 | nil=>rw [e0] at q;exact aw q
 | cons v r =>
  induction r using OA with
  | nil =>
   refine aB (rs.one) fun u Q0 a=>?_;subst Q0;exact ⟨v,u,rfl,a,(e1 v).symm.trans q⟩
  | cons w r=>rw [e2] at q;exact aw q
theorem j6 {f:Int->Int->V}{vs:List V}{args:List Value}{h:Heap}(rs:aG X μ h vs args) (q:mF f vs=some d):∃ i j t t',args=[.int i t,.int j t']/\d=f i j:=by
 induction vs using OA with
 | nil=>exact aw q
 | cons v r =>
  induction r using OA with
  | nil=>exact aw q
  | cons w r =>
   induction r using OA with
   | cons _ _=>exact aw q
   | nil =>
    refine bG (rs.two) fun a b Q0 r1 r2=>?_;subst Q0;refine eO (eV (f:=fun i j=>some (f i j)) q r1 r2) fun i j t t' Q1 Q2 e=>?_;subst Q1;subst Q2;exact ⟨i,j,t,t',rfl,(aq e).symm⟩
theorem z6 {vs:List V}{args:List Value}(H:aS prog w X μ s.heap base Z) (rs:aG X μ s.heap vs args) (h:Di Z vs=some d):wpAny (model prog w) A (call (.builtin "len") args) (Res prog w base X μ s Z d) E s:=by
 have hl':lim=1000000:=rfl;refine bG (nE rs (g:=Di Z) (fun ζ=>rfl) rfl (fun ζ ζ ζ=>rfl) h) fun v u Q0 r h=>?_;subst Q0;refine dv h fun l h1 h2=>bR h2 fun hl h2=>?_;refine bp h2 ?_;refine dm (iz H r h1) fun a vs' n Q1 rl ht=>?_;subst Q1;have e:((vs'.toArray.size:Nat):Int)=(l.length:Int):=by exact aa (aC ..) (aa (rl.length ..) rfl)
 rcases ht with ht | ht
 ·refine PyProof.Rows.len_tuple (fE ht) (by refine aa (e ..) ?_;lia) ?_;refine aa (e ..) ?_;exact Res.tok H (.int _ _)
 ·refine Calls.call_len_list (eg ht) (by refine aa (e ..) ?_;lia) ?_;refine aa (e ..) ?_;exact Res.tok H (.int _ _)
theorem z5 {vs:List V}{args:List Value}{k:Nat}(ro:bY A k) (H:aS prog w X μ s.heap base Z) (rs:aG X μ s.heap vs args) (h:mF (fun a b=>.int (max a b)) vs=some d):wpAny (model prog w) A (call (.builtin "max") args) (Res prog w base X μ s Z d) E s:=by
 refine oO (j6 rs h) fun i j t t' Q0 Q1=>?_;subst Q0;subst Q1;refine max_two_ints ro.handled fun h' tk hk=>Res.kept (tk:=tk) hk ?_;by_cases q:i<j
 ·refine aa (if_pos q ..) (aa (Int.max_eq_right (Int.le_of_lt q) ..) ?_);exact Res.now (H.keeps hk) (.int _ _)
 ·refine aa (if_neg q ..) (aa (Int.max_eq_left (Int.not_lt.mp q) ..) ?_);exact Res.now (H.keeps hk) (.int _ _)
theorem zY {vs:List V}{args:List Value}{k:Nat}(ro:bY A k) (H:aS prog w X μ s.heap base Z) (rs:aG X μ s.heap vs args) (h:mF (fun a b=>.int (min a b)) vs=some d):wpAny (model prog w) A (call (.builtin "min") args) (Res prog w base X μ s Z d) E s:=by
 refine oO (j6 rs h) fun i j t t' Q0 Q1=>?_;subst Q0;subst Q1;refine min_two_ints ro.handled fun h' tk hk=>Res.kept (tk:=tk) hk ?_;by_cases q:j<i
 ·refine aa (if_pos q ..) (aa (Int.min_eq_right (Int.le_of_lt q) ..) ?_);exact Res.now (H.keeps hk) (.int _ _)
 ·refine aa (if_neg q ..) (aa (Int.min_eq_left (Int.not_lt.mp q) ..) ?_);exact Res.now (H.keeps hk) (.int _ _)
theorem zW {vs:List V}{args:List Value}{k:Nat}(ro:bY A k) (H:aS prog w X μ s.heap base Z) (rs:aG X μ s.heap vs args) (h:zX vs=some d):wpAny (model prog w) A (call (.builtin "sum") args) (Res prog w base X μ s Z d) E s:=by
 refine bG (nE rs (g:=zX) (f:=fun v=>zX [v]) (fun ζ=>rfl) rfl (fun v ζ ζ=>by induction v using V.casesOn<;>rfl) h) fun v u Q0 r h=>?_;subst Q0
 induction v using V.casesOn with
 | lst l =>
  refine bR h fun hl h=>eu h fun a h1 h2=>?_;subst h2;refine cM (r.view) fun ζ vs ζ Q1 nb ht rl=>?_;subst Q1;have I:=jw rl h1;refine be (I.allInts.items) fun xs e=>?_;refine sum_intListG (xs:=xs) ro.handled (e▸eg ht) fun h' tk t' hk=>?_;have e2:preSum (numAt xs) xs.size=a.sum:=by
   refine aa (preSum_eq ..) (aa (List.take_of_length_le (by simp) ..) (aa (aH (nums_intItems ..)) (aa (aH (e ..)) ?_)));exact aa (show (List.toArray _).toList=_ from rfl ..) (aa (I.numsOf ..) rfl)
  refine aa (e2 ..) ?_;exact Res.kept hk (Res.now (H.keeps hk) (.int _ _))
 | _=>exact aw h
theorem nV {v:V}{u:Value}{l:List V}{vs:List Value}{a:Addr}{n:Nat}(ht:IsL s.heap a vs.toArray n\/IsT s.heap a vs.toArray n) (H:aS prog w X μ s.heap base Z) (rl:aG X μ s.heap l vs) (h64:l.length<64) (h:sx l=some d):wpAny (model prog w) A (call (.builtin "sorted") [.ref a]) (Res prog w base X μ s Z d) E s :=
 dv h fun b h1 h2=>bR h2 fun hne h2=>by
  refine bp h2 ?_;rcases ht with ht | ht
  ·exact kq (.inl rfl) H ht rl h1 hne h64
  ·exact kq (.inr rfl) H ht rl h1 hne h64
theorem xV {vs:List V}{args:List Value}(H:aS prog w X μ s.heap base Z) (rs:aG X μ s.heap vs args) (h:tT vs=some d):wpAny (model prog w) A (call (.builtin "sorted") args) (Res prog w base X μ s Z d) E s:=by
 refine bG (nE rs (g:=tT) (f:=fun v=>tT [v]) (fun ζ=>rfl) rfl (fun v ζ ζ=>by induction v using V.casesOn<;>rfl) h) fun v u Q0 r h=>?_;subst Q0
 induction v using V.casesOn with
 | lst l =>
  refine cM (r.view) fun ζ vs ζ Q1 nb ht rl=>?_;subst Q1;refine bR h fun h64 h=>?_
  induction h1:c7 l using Oy with
  | some a =>
   rw [h1] at h;refine bp h ?_;exact rn H ht rl h1 h64
  | none =>
   rw [h1] at h;exact nV (v:=d) (u:=.none) (.inl ht) H rl h64 h
 | tup l =>
  refine cM (r.view) fun ζ vs ζ Q2 nb ht rl=>?_;subst Q2;exact bR h fun h64 h=>nV (v:=d) (u:=.none) (.inr ht) H rl h64 h
 | _=>exact aw h
theorem xW {vs:List V}{args:List Value}{k:Nat}(ro:bY A k) (H:aS prog w X μ s.heap base Z) (rs:aG X μ s.heap vs args) (h:tU vs=some d):wpAny (model prog w) A (call (.builtin "repr") args) (Res prog w base X μ s Z d) E s:=by
 obtain ⟨v,u,rfl,r,h⟩:=nE rs (g:=tU) (f:=fun v=>tU [v]) (fun ζ=>rfl) rfl (fun v ζ ζ=>by
  induction v using V.casesOn with
  | lst l=>induction l using OA with
   | nil=>rfl
   | cons b l=>induction b using V.casesOn<;>induction l using OA<;>rfl
  | _=>rfl) h
 have:∃ b',v=.lst [.bool b']/\d=.str (if b' then Str.ofString "[True]" else Str.ofString "[False]"):=by
  induction v using V.casesOn with
  | lst l=>induction l using OA with
   | nil=>exact aw h
   | cons b l=>induction l using OA with
    | cons _ _=>induction b using V.casesOn<;>exact aw h
    | nil=>induction b using V.casesOn with
     | bool b'=>exact ⟨b',rfl,(aq h).symm⟩
     | _=>exact aw h
  | _=>exact aw h
 refine aB this fun b' Q0 Q1=>?_;clear this;subst Q0;subst Q1;refine cM (r.view) fun a ζ ζ Q2 nb ht rl=>?_;subst Q2;refine be (jm (s:=s) 16 (d:=.lst [.bool b']) rfl r) fun as q=>?_;have hu:=ro.line;have hdep:PyData.depth (eH (.lst [.bool b']))=1:=by induction b' using Oz<;>rfl
 refine repr_of_reads' q (by induction b' using Oz<;>rfl) (by intro z;induction b' using Oz<;>exact aM z) ro.guards (by exact aa (hdep ..) (Gk hu)) (fun ζ ζ e=>e) (fun h' u tk hk=>?_) (by induction b' using Oz<;>decide +kernel);have e:PyData.shown (eH (.lst [.bool b']))=(if b'=true then Str.ofString "[True]" else Str.ofString "[False]"):=by induction b' using Oz<;>decide +kernel
 refine aa (e ..) ?_;exact Res.kept hk (Res.now (H.keeps hk) (.str _ _))
theorem vT {v:V}{u:Value}{l:List V}{a:Addr}{vs':List Value}{n:Nat}(H:aS prog w X μ s.heap base Z) (r:bh X μ s.heap v (.ref a)) (h1:bO Z v=some l) (ht:IsT s.heap a vs'.toArray n):bh X μ s.heap (.tup l) (.ref a):=by
 induction v using V.casesOn with
 | tup l'=>obtain rfl:=aq (show some l'=some l from h1);exact r
 | lst l' =>
  refine cM (r.view) fun ζ ζ ζ e ζ ht' ζ=>?_
  cases e
  exact (tB ht ht').elim
 | own q =>
  induction q':Z[q]? using Oy with
  | none=>rw [show bO Z (.own q)=none by delta bO;dsimp only;rw [q']] at h1;exact aw h1
  | some cl=>induction cl using Cell.casesOn with
   | lst l' =>
    obtain ⟨a',e1,_,vs'',n',t',_⟩:=H.ownAt r q' (by simp)
    cases e1;exact (tB ht t').elim
   | _=>rw [show bO Z (.own q)=none by delta bO;dsimp only;rw [q']] at h1;exact aw h1
 | _=>exact aw h1
theorem uY {vs:List V}{args:List Value}(H:aS prog w X μ s.heap base Z) (rs:aG X μ s.heap vs args) (h:sw Z vs=some d):wpAny (model prog w) A (call (.type "tuple") args) (Res prog w base X μ s Z d) E s:=by
 refine bG (nE rs (g:=sw Z) (fun ζ=>rfl) rfl (fun ζ ζ ζ=>rfl) h) fun v u Q0 r h=>?_;subst Q0;refine dv h fun l h1 h2=>bR h2 fun hl h2=>?_;refine bp h2 ?_;refine dm (iz H r h1) fun a vs' n Q1 rl ht=>?_;subst Q1;rcases ht with ht | ht
 ·exact call_tuple_same (fE ht) (Res.now H (vT (u:=.none) H r h1 ht))
 ·refine call_tuple_list (eg ht) (fun h' hk=>?_) (by refine aa (aC ..) (aa (rl.length ..) ?_);exact nF hl);exact Res.kept (tk:=s.toks) hk (Res.tuple (H.keeps hk) (rl.mono (fun a o ζ e=>hk a o e) (fc.refl μ _) fun ζ x=>.inl x))
theorem u2 {v:V}{u:Value}{l:List V}(H:aS prog w X μ s.heap base Z) (r:bh X μ s.heap v u) (h1:bO Z v=some l) (hl:l.length<=lim):wpAny (model prog w) A (call (.type "list") [u]) (Res prog w base X μ s Z (.lst l)) E s:=by
 refine dm (iz H r h1) fun a vs' n Q0 rl ht=>?_;subst Q0;have cL:∀ h' c',(∀ b o',s.heap.get? b=some o'->h'.get? b=some o')->h'.get? s.heap.objs.size=some { cls:=.type "list",dict:=none,data:=.seq vs'.toArray c',slots:=#[] }->Res prog w base X μ s Z (.lst l) (.ref s.heap.objs.size) { s with heap:=h' }:=fun h' c' hk e =>
  Res.listAt (tk:=s.toks) H hk (bP _) e (rl.mono (fun a o ζ e=>hk a o e) (fc.refl μ _) fun ζ x=>.inl x)
 have z:vs'.toArray.size<=sizeLine:=by refine aa (aC ..) (aa (rl.length ..) ?_);exact nF hl
 rcases ht with ht | ht
 ·exact call_list_seq a (.inr rfl) ht rfl rfl cL z
 ·exact call_list_seq a (.inl rfl) ht rfl rfl cL z
theorem xY {vs:List V}{args:List Value}{k:Nat}(ro:bY A k) (H:aS prog w X μ s.heap base Z) (rs:aG X μ s.heap vs args) (h:tV Z vs=some d):wpAny (model prog w) A (call (.type "list") args) (Res prog w base X μ s Z d) E s:=by
 have hl':lim=1000000:=rfl;refine bG (nE rs (g:=tV Z) (f:=fun v=>tV Z [v]) (fun ζ=>rfl) rfl (fun ζ ζ ζ=>rfl) h) fun v u Q0 r h=>?_;subst Q0;have seqC:∀ v,bh X μ s.heap v u->((bO Z v).bind fun l=>if l.length<=lim then some (V.lst l) else none)=some d->wpAny (model prog w) A (call (.type "list") [u]) (Res prog w base X μ s Z d) E s:=fun v r h =>
  dv h fun l h1 h2=>bR h2 fun hl h2=>by
   refine bp h2 ?_;exact u2 H r h1 hl
 induction v using V.casesOn with
 | rng i j =>
  refine bR h fun hc h=>?_;refine bp h ?_;refine eO (r.view) fun a t u' w' Q1 nb hr=>?_;subst Q1;have hn:=eQ i j;refine call_list_range ro.handled hr (iK hc.1 hc.2) hn (by first | exact af (jt ⟨hc.1,hc.2⟩) (by decide) | exact aJ (jt ⟨hc.1,hc.2⟩) (by decide) | omega) fun h' tk acc' c' hk hS' hacc=>?_;have:acc'=acc'.toList.toArray:=by simp
  rw [this] at hS';exact Res.listAt H hk (bP _) hS' (kB hacc)
 | _=>exact seqC _ r h
theorem u1 {vs:List V}{args:List Value}(H:aS prog w X μ s.heap base Z) (rs:aG X μ s.heap vs args) (h:xX vs=some d):wpAny (model prog w) A (call (.type "range") args) (Res prog w base X μ s Z d) E s:=by
 have two:mF .rng vs=some d->wpAny (model prog w) A (call (.type "range") args) (Res prog w base X μ s Z d) E s:=fun h=>by
  refine oO (j6 rs h) fun i j t t' Q0 Q1=>?_;subst Q0;subst Q1;exact call_range_2 (Res.made H (.rng H.fresh (IsRange.new ..)))
 induction vs using OA with
 | nil=>exact two h
 | cons v r=>induction r using OA with
  | cons _ _=>exact two h
  | nil =>
   refine aB (rs.one) fun u Q2 r=>?_;subst Q2
   induction v using V.casesOn with
   | int j =>
    obtain rfl:=aq (show some (V.rng 0 j)=some d from h);refine be (r.view) fun ζ Q3=>?_;subst Q3;exact call_range_1 (Res.made H (.rng H.fresh (IsRange.new ..)))
   | _=>exact aw h
theorem oG {α:Type}{i j:String}{a b:Option α}{r:α}{G:String->Prop}(h:(if i=j then a else b)=some r) (k:a=some r->G j) (k':b=some r->G i):G i:=by
 by_cases q:i=j
 ·rw [if_pos q] at h;subst q;exact k h
 ·rw [if_neg q] at h;exact k' h
theorem mB {b:Value}{vs:List V}{args:List Value}{k:Nat}(ro:bY A k) (H:aS prog w X μ s.heap base Z) (rs:aG X μ s.heap vs args) (h:eG Z b vs=some d) :
  wpAny (model prog w) A (call b args) (Res prog w base X μ s Z d) E s:=by
 induction b using Value.casesOn with
 | builtin i =>
  let G:String->Prop:=fun i=>wpAny (model prog w) A (call (.builtin i) args) (Res prog w base X μ s Z d) E s
  exact oG (G:=G) h (fun h=>z6 H rs h) fun h=>oG (G:=G) h (fun h=>z5 ro H rs h) fun h=>oG (G:=G) h (fun h=>zY ro H rs h) fun h=>oG (G:=G) h (fun h=>zW ro H rs h) fun h=>oG (G:=G) h (fun h=>xV H rs h) fun h=>oG (G:=G) h (fun h=>xW ro H rs h) fun h=>nomatch h
 | type i =>
  let G:String->Prop:=fun i=>wpAny (model prog w) A (call (.type i) args) (Res prog w base X μ s Z d) E s
  exact oG (G:=G) h (fun h=>uY H rs h) fun h=>oG (G:=G) h (fun h=>xY ro H rs h) fun h=>oG (G:=G) h (fun h=>u1 H rs h) fun h=>nomatch h
 | _=>exact aw (show none=some d from h)
end
section
variable {prog:Program}{w:World}{K:Frag}{base:Heap}{c:d8}{X:Addr->Prop}{μ μ':Mu}{s s':Shared}{Z Z' Z1:ag}{ρ ρ':aL}{env:Env}{A:Around}{E:Value->Shared->Prop}{d e da:V}
theorem cT {α:Type}{x:Str}{v:α}:∀ {r:List (Str×α)},lk x (st x v r)=some v
 | []=>by simp [st,lk]
 | (y,w)::r=>by
  unfold st
  split
  ·rename_i h;subst h;simp [lk]
  ·rename_i h;simp only [lk,h,if_false];exact cT
theorem du {α:Type}{x y:Str}{v:α}(h:x≠y):∀ {r:List (Str×α)},lk y (st x v r)=lk y r
 | []=>by simp [st,lk,h]
 | (z,w)::r=>by
  unfold st
  split
  ·rename_i h';subst h';simp [lk,h]
  ·simp only [lk];exact aa (du h ..) rfl
noncomputable def o9 (env:Env) (a:Addr):Prop:=a=env.locals\/∃ x,env.kindOf x=some .cell/\env.cells.lookup x=some a
noncomputable def sE (env:Env) (x:Str) (a:Addr):Prop:=(env.kindOf x=some .local/\a=env.locals)\/(env.kindOf x=some .cell/\env.cells.lookup x=some a)
theorem sE.own {x:Str}{a:Addr}(h:sE env x a):o9 env a:=h.elim (fun h=>.inl h.2) fun h=>.inr ⟨x,h⟩
noncomputable def Ng (env:Env) (a:Addr):Prop:=a=env.locals
theorem jg {x : Str} {v : Value} {W : Addr -> Prop} (H : aS prog w X μ s.heap base Z) (R : bE c.G X μ s.heap env ρ) (hx : env.kindOf x = some .local \/ env.kindOf x = some .cell) (hW : ∀ a, sE env x a -> W a) (hWX : ∀ a, W a -> X a) (hG : yh c.G x) (r : bh X μ s.heap d v)
  {Q : Unit -> Shared -> Prop} (hQ : ∀ s', Stp W μ μ s s' -> aS prog w X μ s'.heap base Z -> bE c.G X μ s'.heap env (st x d ρ) -> Q () s') : wpAny (model prog w) A (storeName env x v) Q E s := by
 refine aB (R.ns) fun m hm hv => ?_;have noG : ∀ y d', lk y (st x d ρ) = some d' -> yh c.G y := fun y d' e => by
  by_cases q : x = y
  ·subst q; exact hG
  ·rw [du q] at e; exact R.noG y d' e
 have hxl : ¬ (env.kindOf x = some .local) -> env.kindOf x = some .cell := fun z => hx.resolve_left z;rcases hx with hx | hx
 ·refine wpAny_storeName_local hx hm (fun h' hn hs => ?_) (by refine aa (R.kind ..) ?_; rfl);have hb : X env.locals := R.bar;have keepX : ∀ a o, s.heap.get? a = some o -> ¬ X a -> h'.get? a = some o := fun a o e nx => (hs.2 a (by rintro rfl; exact nx hb)).trans e;have ht : (h'.get? env.locals).isSome = true := by refine cp (hn) fun o ζ ζ e ζ => ?_; clear hn; refine aa (e ..) ?_; rfl
  have H' : aS prog w X μ h' base Z := H.grow keepX (fun a e => by
   by_cases q : a = env.locals
   ·subst q; exact ht
   ·refine aa (hs.2 a q ..) ?_; exact e) fun ζ x => .inl x
  have mv : ∀ a o, ¬ dY X μ a -> s.heap.get? a = some o -> h'.get? a = some o := fun a o nb e => keepX a o e fun q => nb (.inr q);have ncell : ∀ (y : Str) a v, env.cells.lookup y = some a -> a ≠ env.locals -> s.heap.IsCell a v -> h'.IsCell a v := fun y a v _ ne ⟨o, e, q⟩ => ⟨o, (hs.2 a ne).trans e, q⟩;refine hQ { s with heap := h', toks := s.toks + 1 } ?_ H' ⟨R.kind, R.glo, R.bui, R.bar, noG, ⟨_, hn, fun y d' e => ?_⟩, fun y k => ?_, R.one⟩
  ·exact Stp.of_same (.inr (hW _ (.inl ⟨hx, rfl⟩))) hs ht
  ·by_cases q : x = y
   ·subst q;rw [cT] at e; refine bp e ?_;exact .loc hx (by simp) (r.mono mv (fc.refl _ _) fun ζ x => .inl x)
   ·rw [du q] at e;refine (hv y d' e).imp (fun ζ r => r.mono mv (fc.refl _ _) fun ζ x => .inl x) (fun u h1 => (if_neg (Ne.symm q)).trans h1) fun a u k h1 h2 h3 => ⟨?_, h3⟩;refine bK (R.cel y k) fun a' ζ h1' ζ ζ ne => ?_;exact ncell y a _ h1 (aq (h1'.symm.trans h1) ▸ ne) h2
  ·refine bK (R.cel y k) fun a u h1 h2 h3 h4 => ?_;exact ⟨a, u, h1, ncell y a _ h1 h4 h2, h3, h4⟩
 ·refine bK (R.cel x (.inl hx)) fun a u h1 h2 h3 h4 => ?_;refine wpAny_storeName_cell R.kind hx h1 h2 fun h' hc hs => ?_;have keepX : ∀ b o, s.heap.get? b = some o -> ¬ X b -> h'.get? b = some o := fun b o e nx => (hs.2 b (by rintro rfl; exact nx h3)).trans e;have ht : (h'.get? a).isSome = true := by refine aB (hc) fun o e ζ => ?_; clear hc; refine aa (e ..) ?_; rfl
  have H' : aS prog w X μ h' base Z := H.grow keepX (fun b e => by
   by_cases q : b = a
   ·subst q; exact ht
   ·refine aa (hs.2 b q ..) ?_; exact e) fun ζ x => .inl x
  have mv : ∀ b o, ¬ dY X μ b -> s.heap.get? b = some o -> h'.get? b = some o := fun b o nb e => keepX b o e fun q => nb (.inr q);have other : ∀ (y : Str) b v, x ≠ y -> (env.kindOf y = some .cell \/ env.kindOf y = some .free) -> env.cells.lookup y = some b -> s.heap.IsCell b v -> h'.IsCell b v := fun y b v ne k e ⟨o, e', q⟩ =>
   ⟨o, (hs.2 b (by rintro rfl; exact ne (R.one x y b (.inl hx) k h1 e))).trans e', q⟩
  refine hQ { s with heap := h' } (Stp.of_same (.inr (hW _ (.inr ⟨hx, h1⟩))) hs ht) H' ⟨R.kind, R.glo, R.bui, R.bar, noG, ⟨m, hm.at' fun o e => (hs.2 _ (Ne.symm h4)).trans e, fun y d' e => ?_⟩, fun y k => ?_, R.one⟩
  ·by_cases q : x = y
   ·subst q;rw [cT] at e; refine bp e ?_;exact .celk (.inl hx) h1 hc h3 (r.mono mv (fc.refl _ _) fun ζ x => .inl x)
   ·rw [du q] at e;exact (hv y d' e).imp (fun ζ r => r.mono mv (fc.refl _ _) fun ζ x => .inl x) (fun ζ e => e) fun b u k g1 g2 g3 => ⟨other y b _ q k g1 g2, g3⟩
  ·by_cases q : x = y
   ·subst q; exact ⟨a, some v, h1, hc, h3, h4⟩
   ·refine bK (R.cel y k) fun b u h1' h2' h3' h4' => ?_;exact ⟨b, u, h1', other y b _ q k h1' h2', h3', h4'⟩
noncomputable def dJ (G:List (Str×V)) (sc:Scope) (x:Str):Bool:=(sc.names.lookup x==some .local||sc.names.lookup x==some .cell)&&ww G x
noncomputable def fU:Expr->List Str
 | .Name x _=>[x]
 | .Tuple es _ _=>(names es).getD []
 | _=>[]
theorem jM {G:List (Str×V)}{sc:Scope}{x:Str}(h:dJ G sc x=true):(sc.names.lookup x=some .local\/sc.names.lookup x=some .cell)/\yh G x:=by
 simp only [dJ,Bool.and_eq_true,Bool.or_eq_true,beq_iff_eq] at h;exact ⟨h.1,Aj h.2⟩
theorem rM {W:Addr->Prop}(hWX:∀ a,W a->X a) {Q:Unit->Shared->Prop}{es:List Expr}{xs:List Str}{l:List V}{vs:List Value}{s:Shared}{ρ:aL}(hW:∀ x∈xs,∀ a,sE env x a->W a) (hn:names es=some xs) (ho:xs.all (dJ c.G env.scope)=true) (hb:cX xs l ρ=some ρ') (r:aG X μ s.heap l vs)
  (H:aS prog w X μ s.heap base Z) (R:bE c.G X μ s.heap env ρ) (hQ:∀ s',Stp W μ μ s s'->aS prog w X μ s'.heap base Z->bE c.G X μ s'.heap env ρ'->Q () s'):wpAny (model prog w) A (assignInOrder ((assignEach es env).map (·.2)) vs) Q E s:=by
 induction es generalizing xs l vs s ρ with
 | nil =>
  (have q_:=aq hn;clear hn;subst q_)
  induction l using OA with
  | nil=>(have q_:=aq hb;clear hb;subst q_);obtain rfl:=r.view;exact av (hQ s (Stp.refl _ _ _) H R)
  | cons _ _=>exact aw hb
 | cons e es ih =>
  induction e using Expr.casesOn with
  | Name x p =>
   refine eu hn fun ys hn' Q0=>?_;clear hn;subst Q0
   induction l using OA with
   | nil=>exact aw hb
   | cons d l =>
    replace hb:cX ys l (st x d ρ)=some ρ':=hb;have ho:=bF ho;refine bl (jM ho.1) fun hk hg=>?_;refine bG r.view fun v vs zz r1 rs=>?_;subst zz;show wpAny (model prog w) A (holding _ (assign (.Name x p) env _) >>= fun ζ=>assignInOrder ((assignEach es env).map (·.2)) _) Q E s;refine ab (wpAny_holding (wpAny_assign_Name (jg H R hk (hW x (.head _)) hWX hg r1 fun s' p' H' R'=>?_)));exact ih (fun y hy=>hW y (.tail _ hy)) hn' ho.2 hb (rs.stpW p' hWX) H' R' fun s'' p'' H'' R''=>hQ s'' (p'.trans p'') H'' R''
  | _=>exact aw hn
theorem rW {es:List Expr}{xs:List Str}(h:names es=some xs):(assignEach es env).findIdx? (·.1)=none/\(assignEach es env).length=xs.length:=by
 induction es generalizing xs with
 | nil=>exact bp h ⟨rfl,rfl⟩
 | cons e es ih =>
  induction e using Expr.casesOn with
  | Name x p =>
   refine eu h fun ys hn Q0=>?_;clear h;subst Q0;refine bl (ih hn) fun h1 h2=>?_;show ((false,assign (.Name x p) env)::assignEach es env).findIdx? (·.1)=none/\((false,assign (.Name x p) env)::assignEach es env).length=_;refine ⟨?_,by simp [h2]⟩;refine aa (List.findIdx?_cons ..) ?_;simp [h1]
  | _=>exact aw h
theorem ip {xs:List Str}{l:List V}{ρ ρ':aL}(h:cX xs l ρ=some ρ'):xs.length=l.length:=by
 induction xs generalizing l ρ with
 | nil =>
  induction l using OA with
  | nil=>rfl
  | cons _ _=>exact aw h
 | cons x xs ih =>
  induction l using OA with
  | nil=>exact aw h
  | cons v l=>exact congrArg Nat.succ (ih (l:=l) h)
theorem fe {x:Str}{p:Pos}:fU (.Name x p)=[x]:=rfl
theorem fT {es:List Expr}{k:Nat}{p:Pos}:fU (.Tuple es k p)=(names es).getD []:=rfl
theorem mx {t:Expr}{v:V}{ρa:aL}{G:Prop}(h:b6 t v ρ=some ρa) (k1:∀ x p,t=.Name x p->st x v ρ=ρa->G) (k2:∀ es k p l xs,t=.Tuple es k p->v=.tup l->names es=some xs->cX xs l ρ=some ρa->G):G:=by
 induction t using Expr.casesOn with
 | Name x p=>exact k1 x p rfl (aq h)
 | Tuple es k p =>
  induction v using V.casesOn with
  | tup l=>exact dv h fun xs a b=>k2 es k p l xs rfl rfl a b
  | _=>exact aw h
 | _=>exact aw h
set_option tactic.hygienic true in
theorem mw {t:Expr}{v:Value}{W:Addr->Prop}(hh:A.handled=none) (H:aS prog w X μ s.heap base Z) (R:bE c.G X μ s.heap env ρ) (ho:(fU t).all (dJ c.G env.scope)=true) (hW:∀ x∈fU t,∀ a,sE env x a->W a) (hWX:∀ a,W a->X a) (r:bh X μ s.heap d v) (hb:b6 t d ρ=some ρ')
  {Q:Unit->Shared->Prop}(hQ:∀ s',Stp W μ μ s s'->aS prog w X μ s'.heap base Z->bE c.G X μ s'.heap env ρ'->Q () s'):wpAny (model prog w) A (assign t env v) Q E s:=by
 refine mx hb (fun x p e1 e2=>?_) fun es k p l xs e1 e2 hn hb2=>?_
 ·subst e1;subst e2;have:=jM (by simpa [fe] using ho:dJ c.G env.scope x=true);exact wpAny_assign_Name (jg H R this.1 (hW x (by simp [fe])) hWX this.2 r hQ)
 ·subst e1;subst e2
  cases r with
  | tup nb ht rl =>
   rename_i a vs n;refine bl (rW (env:=env) hn) fun h1 h2=>?_;have hlen:=rl.length;have hbl:=ip hb2;refine assign_Tuple_tuple hh (fE ht) (by refine aa (h2 ..) (aa (aC ..) ?_);exact Eh hlen hbl) h1 fun h' he=>?_;have hk:∀ a o,s.heap.get? a=some o->h'.get? a=some o:=fun a o e=>he a o (Nat.ne_of_lt (Heap.lt_size e)) e;have p0:Stp No μ μ s { s with heap:=h' }:=Stp.of_keeps (tk:=s.toks) hk;refine rM (s:={ s with heap:=h' }) hWX (by simpa [fT,hn] using hW) hn (by simpa [fT,hn] using ho) hb2 (rl.stp p0) (H.keeps hk) (R.stp p0 H.off) fun s' p' H' R'=>hQ s' ((p0.wide fun ζ q=>q.elim).trans p') H' R'
end
section
variable {prog:Program}{w:World}{K:Frag}{base:Heap}{c:d8}{X Y:Addr->Prop}{μ μ':Mu}{h h':Heap}{s s':Shared}{Z Z' Z1:ag}{ρ ρ':aL}{env:Env}{A:Around}{E:Value->Shared->Prop}{d e da:V}
theorem cx.mono' {X X':Addr->Prop}(hx:∀ (k:Nat) a b,μ[k]?=some (a,b)->μ'[k]?=some (a,b)) (hB:∀ a,dY X' μ' a->dY X μ a) {a:Addr}{c:Cell}(r:cx prog w X μ h a c):cx prog w X' μ' h a c :=
 r.up (fun ζ ζ ζ e=>e) (fun k a b e=>⟨b,hx k a b e⟩) (fun a q=>.inl (hB a q)) fun ζ e=>e
theorem aS.drop (H:aS prog w Y μ h base Z) (hX:∀ a,X a->Y a):aS prog w X μ h base Z where
 len:=H.len
 cell:=fun k c e=>(H.cell k c e).imp id fun ⟨a,e1,r⟩=>⟨a,e1,r.mono' (fun ζ ζ ζ e=>e) fun a q=>q.imp id (hX a)⟩
 inj:=H.inj
 stays:=H.stays
 apart:=fun a q=>H.apart a (q.imp id (hX a))
 here:=fun a q=>H.here a (q.imp id (hX a))
 off:=fun a l x=>H.off a l (hX a x)
theorem bh.drop (r:bh Y μ h d ef) (hX:∀ a,X a->Y a):bh X μ h d ef:=r.mono' (fun ζ ζ ζ e=>e) (fun ζ ζ b e=>⟨b,e⟩) fun ζ q=>.inl (q.imp id (hX _))
theorem aG.drop {ds:List V}{vs:List Value}(r:aG Y μ h ds vs) (hX:∀ a,X a->Y a):aG X μ h ds vs:=r.mono' (fun ζ ζ ζ e=>e) (fun ζ ζ b e=>⟨b,e⟩) fun ζ q=>.inl (q.imp id (hX _))
theorem ia (a:Addr):∀ (k:Nat) b t,μ[k]?=some (b,t)->(μ++[(a,true)])[k]?=some (b,t):=fun k b t e=>by
 refine aa (ba (List.getElem?_eq_some_iff.mp e).1 ..) ?_;exact e
theorem iq {a:Addr}(ha:Y a) (hX:∀ b,X b->Y b):∀ b,dY X (μ++[(a,true)]) b->dY Y μ b:=fun b q=>q.elim (fun l=>(aN.mp l).elim .inl fun l=>by
 cases an.mp l;exact .inr ha) fun x=>.inr (hX b x)
theorem aS.live (H:aS prog w Y μ h base Z) {a:Addr}{c:Cell}(ha:Y a) (hX:∀ b,X b->Y b/\b≠a) (hc:cx prog w X (μ++[(a,true)]) h a c):aS prog w X (μ++[(a,true)]) h base (Z++[c]):=by
 have hX':∀ b,X b->Y b:=fun b x=>(hX b x).1;have hnl:¬eD μ a:=fun l=>H.off a l ha;have up:∀ {k:Nat}{p:Addr×Bool},(μ++[(a,true)])[k]?=some p->(μ[k]?=some p)\/(k=μ.length/\p=(a,true)):=by
  intro k p e;rcases Nat.lt_trichotomy k μ.length with q | q | q
  ·rw [ba q] at e;exact .inl e
  ·subst q;simp at e;exact .inr ⟨rfl,e.symm⟩
  ·have:(μ++[(a,true)])[k]?=none:=List.getElem?_eq_none (by refine aa (ai ..) (aa (aE ..) ?_);exact El q);rw [this] at e;exact aw e
 refine ⟨by refine aa (ai ..) (aa (ai ..) (aa (H.len ..) ?_));rfl,fun k c' e=>?_,fun j k b e1 e2=>?_,H.stays,fun b q=>H.apart b (iq ha hX' b q),fun b q=>H.here b (iq ha hX' b q),fun b l x=>?_⟩
 ·rcases Nat.lt_trichotomy k Z.length with q | q | q
  ·rw [ba q] at e;exact (H.cell k c' e).imp id fun ⟨b,e1,r⟩=>⟨b,ia a _ _ _ e1,r.mono' (ia a) (iq ha hX')⟩
  ·subst q;simp at e;subst e;exact .inr ⟨a,by refine aa (aH (H.len ..)) ?_;simp,hc⟩
  ·have:(Z++[c])[k]?=none:=List.getElem?_eq_none (by refine aa (ai ..) (aa (aE ..) ?_);exact El q);rw [this] at e;exact aw e
 ·rcases up e1 with q1 | ⟨q1,r1⟩<;>rcases up e2 with q2 | ⟨q2,r2⟩
  ·exact H.inj j k b q1 q2
  ·cases r2;exact absurd (cE q1) hnl
  ·cases r1;exact absurd (cE q2) hnl
  ·exact aa (q1 ..) (aa (q2 ..) rfl)
 ·rcases aN.mp l with l | l
  ·exact H.off b l (hX b x).1
  ·cases an.mp l;exact (hX _ x).2 rfl
theorem fc.snoc {a:Addr}{hO:Heap}(e:fc μ μ' hO) (ha:hO.get? a=none):fc μ (μ'++[(a,true)]) hO :=
 ⟨fun k b t q=>let ⟨t',q'⟩:=e.ext k b t q;⟨t',ia a _ _ _ q'⟩,fun b l=>(aN.mp l).elim (fun l=>e.new b l) fun l=>by cases an.mp l;exact .inr ha⟩
theorem Stp.narrow {W:Addr->Prop}(p:Stp W μ μ' s s') (hW:∀ a,W a->s.heap.get? a=none):Stp No μ μ' s s' :=
 ⟨p.same,fun a o nl ζ e=>p.keep a o nl (fun q=>by rw [hW a q] at e;exact aw e) e,p.there,p.ext⟩
structure sD (prog:Program) (w:World) (A:Around) (X:Addr->Prop) (μ:Mu) (hO:Heap) (I:Addr) (fp:List Addr) (P:Nat->Value->Prop) (St:Nat->Heap->Prop) (l:List V):Prop where
 W:Walks prog w A I fp [I] l.length P St
 fpOk:∀ b∈fp,b=I\/(¬dY X μ b/\(hO.get? b).isSome=true)
 mem:I∈fp
 item:∀ i v d,P i v->l[i]?=some d->bh X μ hO d v
 cls:∀ i h,St i h->∃ o,h.get? I=some o/\(o.cls=.type "list_iterator" \/o.cls=.type "tuple_iterator" \/o.cls=.type "range_iterator")
theorem kz {t:Expr}{v:Value}{I:Addr}{o:Obj}{Q:Unit->Shared->Prop}(ho:s.heap.get? I=some o) (hc:o.cls=.type "list_iterator" \/o.cls=.type "tuple_iterator" \/o.cls=.type "range_iterator") (hQ:Q () s) :
  wpAny (model prog w) A (letOwnedTupleGo t (.ref I) v) Q E s:=by
 have no:∀ n,o.cls=.type n->["enumerate", "zip", "dict_itemiterator", "dict_reverseitemiterator", "odict_iterator", "itertools.zip_longest", "itertools.pairwise"].contains n=false:=fun n e=>by
  rw [e] at hc;rcases hc with hc | hc | hc<;>(cases hc;decide)
 have go:wpAny (model prog w) A (letOwnedTupleGo (.Tuple [] 0 t.pos) (.ref I) v) Q E s:=by
  induction v using Value.casesOn with
  | ref a =>
   refine ab (wpAny_load ho ?_);have nv:∀ {n:String}{q:Bool}{T:Sem Unit},o.cls=.type n->wpAny (model prog w) A (if (["enumerate", "zip", "dict_itemiterator", "dict_reverseitemiterator", "odict_iterator", "itertools.zip_longest", "itertools.pairwise"].contains n&&q)=true then T else pure ()) Q E s:=fun e=>by
    rw [no _ e];exact av hQ
   revert nv
   generalize o.cls=cl;generalize o.data=dt;intro nv
   induction cl using Value.casesOn<;>first | exact av hQ | (induction dt using Data.casesOn<;>first | exact nv rfl | exact av hQ)
  | _=>exact av hQ
 induction t using Expr.casesOn<;>first | exact av hQ | exact go
set_option tactic.hygienic true in
theorem oF {u:Value}{l:List V}{k:Nat}(ro:bY A k) (H:aS prog w X μ s.heap base Z) (r:bh X μ s.heap d u) (hi:items d=some l) {Q:Value->Shared->Prop}
  (hQ:∀ (o:Obj) (fp:List Addr) (P:Nat->Value->Prop) (St:Nat->Heap->Prop),sD prog w A X μ s.heap s.heap.objs.size fp P St l->l.length<=2*lim->St 0 (s.heap.push o)->Q (.ref s.heap.objs.size) { s with heap:=s.heap.push o }) :
  wpAny (model prog w) A (pyIter u) Q E s:=by
 have hl':lim=1000000:=rfl;have fresh:∀ {a:Addr}{o:Obj},s.heap.get? a=some o->a≠s.heap.objs.size:=fun e=>Nat.ne_of_lt (Heap.lt_size e);have nlI:¬eD μ s.heap.objs.size:=fun q=>H.fresh (.inl q);unfold items at hi;split at hi
 ·refine bR hi fun _hc hi=>?_
  cases hi
  refine cM (r.view) fun a vs n Q0 nb ht rl=>?_;subst Q0;have hlen:=rl.length;have W:=Walks.tuple (prog:=prog) (w:=w) ro.handled s.heap.objs.size a (fresh ht) vs.toArray;rw [show vs.toArray.size=l.length by exact aa (aC ..) (aa (hlen ..) rfl)] at W;refine PyProof.Rows.iter_tuple (fE ht) (hQ _ _ _ _ ⟨W,fun b hb=>?_,by simp,fun i v d hP hd=>?_,fun i h st=>?_⟩ (y5 _hc) ⟨⟨_,aW _ rfl,rfl,rfl⟩,(fE ht).push _⟩)
  ·rcases List.mem_cons.mp hb with rfl | hb
   ·exact .inl rfl
   ·refine aa (an.mp hb ..) ?_;exact .inr ⟨nb,by refine aa (ht ..) ?_;rfl⟩
  ·refine aB (rl.getV (k:=i) (v:=v) (by simpa using hP)) fun d' e1 e2=>?_;rw [hd] at e1;(have q_:=aq e1;clear e1;subst q_);exact e2
  ·refine bl st fun Q1 ζ=>?_;clear st;refine bH Q1 fun o h1 h2 ζ=>?_;exact ⟨o,h1,.inr (.inl h2)⟩
 ·refine bR hi fun _hc hi=>?_
  cases hi
  refine cM (r.view) fun a vs n Q0 nb ht rl=>?_;subst Q0;have hlen:=rl.length;have W:=Walks.list (prog:=prog) (w:=w) ro.handled s.heap.objs.size a (fresh ht) vs.toArray;rw [show vs.toArray.size=l.length by exact aa (aC ..) (aa (hlen ..) rfl)] at W;refine wpAny_pyIter_list (eg ht) (hQ _ _ _ _ ⟨W,fun b hb=>?_,by simp,fun i v d hP hd=>?_,fun i h st=>?_⟩ (y5 _hc) ⟨⟨_,aW _ rfl,rfl,rfl⟩,(eg ht).push _⟩)
  ·rcases List.mem_cons.mp hb with rfl | hb
   ·exact .inl rfl
   ·refine aa (an.mp hb ..) ?_;exact .inr ⟨nb,by refine aa (ht ..) ?_;rfl⟩
  ·refine aB (rl.getV (k:=i) (v:=v) (by simpa using hP)) fun d' e1 e2=>?_;rw [hd] at e1;(have q_:=aq e1;clear e1;subst q_);exact e2
  ·refine bl st fun Q2 ζ=>?_;clear st;refine bH Q2 fun o h1 h2 ζ=>?_;clear Q2;exact ⟨o,h1,.inl h2⟩
 ·split at hi
  ·rename_i hc;(have q_:=aq hi;clear hi;subst q_)
   cases r with
   | rng nb hr =>
    rename_i i j a t u v;have hn:=eQ i j;have W:=Walks.range (prog:=prog) (w:=w) ro.handled s.heap.objs.size i 1 (j - i).toNat;have hlen:((List.range (j - i).toNat).map fun q:Nat=>V.int (i+(q:Int))).length=(j - i).toNat:=by simp
    rw [← hlen] at W;refine wpAny_pyIter_range hr (iK hc.1 hc.2) (hQ _ _ _ _ ⟨W,fun b hb=>.inl (an.mp hb),by simp,fun q v d hP hd=>?_,fun q h st=>⟨_,st,.inr (.inr rfl)⟩⟩ (by exact aa (hlen ..) (jt hc)) ?_)
    ·refine be hP fun tk Q3=>?_;clear hP;subst Q3;rw [List.getElem?_map,Option.map_eq_some_iff] at hd;refine aB hd fun q' e1 Q4=>?_;clear hd;subst Q4;have:q'=q:=by
      have:=List.getElem?_eq_some_iff.mp e1;refine be this fun ζ e=>?_;clear this;simpa using e.symm
     subst this;refine aa (Int.mul_one ..) ?_;exact .int _ _
    ·refine aa (hlen ..) ?_;have:=aW s.heap (o:={ cls:=.type "range_iterator",data:=.fields #[rawInt i,rawInt (Builtin.Range.rangeSize i j 1),rawInt 1] }) rfl;rw [hn] at this ⊢;simpa [IsRangeIter] using this
  ·exact aw hi
 ·cases hi
end
theorem jT {p:Str->Bool}{x:Str}:∀ {ρ:aL},lk x (ρ.filter fun q=>p q.1)=if p x=true then lk x ρ else none
 | []=>by simp [lk]
 | (y,v)::r=>by
  have ih:=jT (p:=p) (x:=x) (ρ:=r);by_cases hy:p y=true
  ·refine aa (List.filter_cons_of_pos (by simpa using hy) ..) ?_;by_cases e:y=x
   ·subst e;simp [lk,hy]
   ·simp only [lk,e,if_false];exact ih
  ·refine aa (List.filter_cons_of_neg (by simpa using hy) ..) (aa (ih ..) ?_);by_cases e:y=x
   ·subst e;simp [hy]
   ·simp only [lk,e,if_false]
noncomputable def lE (scope:Scope) (ρ:aL):aL:=ρ.filter fun q=>scope.names.lookup q.1!=some .local
theorem gS {scope : Scope} {ρ : aL} {x : Str} : lk x (lE scope ρ) = if scope.names.lookup x = some .local then none else lk x ρ := by
 unfold lE;refine aa (jT (p := fun z => scope.names.lookup z != some .local) ..) ?_;by_cases h : scope.names.lookup x = some .local
 ·exact aa (if_pos h ..) (aa (if_neg (by simp [h]) ..) rfl)
 ·exact aa (if_neg h ..) (aa (if_pos (by simpa using h) ..) rfl)
theorem qL {xs:List Str}{l:List V}{ρ ρa:aL}(h:cX xs l ρ=some ρa) (ρb:aL):∃ ρc,cX xs l ρb=some ρc/\∀ x,(x∈xs->lk x ρc=lk x ρa)/\(x∉xs->lk x ρa=lk x ρ/\lk x ρc=lk x ρb):=by
 induction xs generalizing l ρ ρb with
 | nil =>
  induction l using OA with
  | nil=>exact bp h ⟨ρb,rfl,fun x=>⟨nofun,fun ζ=>⟨rfl,rfl⟩⟩⟩
  | cons _ _=>exact aw h
 | cons y ys ih =>
  induction l using OA with
  | nil=>exact aw h
  | cons v l =>
  replace h:cX ys l (st y v ρ)=some ρa:=h;refine aB (ih h (st y v ρb)) fun ρc e q=>?_;refine ⟨ρc,e,fun x=>?_⟩;by_cases hx:x∈ys
  ·exact ⟨fun ζ=>(q x).1 hx,fun z=>absurd (List.mem_cons_of_mem _ hx) z⟩
  ·refine bl ((q x).2 hx) fun q1 q2=>?_;by_cases hy:y=x
   ·subst hy;exact ⟨fun ζ=>by exact aa (q1 ..) (aa (q2 ..) (aa (cT ..) (aa (cT ..) rfl))),fun z=>absurd (List.mem_cons_self ..) z⟩
   ·refine ⟨fun z=>?_,fun ζ=>⟨by exact aa (q1 ..) (aa (du hy ..) rfl),by exact aa (q2 ..) (aa (du hy ..) rfl)⟩⟩;rcases List.mem_cons.mp z with z | z
    ·exact absurd z.symm hy
    ·exact absurd z hx
theorem uR {t:Expr}{v:V}{ρ ρa:aL}(h:b6 t v ρ=some ρa) (ρb:aL):∃ ρc,b6 t v ρb=some ρc/\∀ x,(x∈fU t->lk x ρc=lk x ρa)/\(x∉fU t->lk x ρa=lk x ρ/\lk x ρc=lk x ρb):=by
 refine mx h (fun y p e1 e2=>?_) fun es k p l xs e1 e2 hn hb=>?_
 ·subst e1;subst e2;refine ⟨st y v ρb,rfl,fun x=>?_⟩;by_cases hy:y=x
  ·subst hy;exact ⟨fun ζ=>by exact aa (cT ..) (aa (cT ..) rfl),fun z=>absurd (by simp [fe]) z⟩
  ·exact ⟨fun z=>absurd (by simpa [fe] using z:x=y).symm hy,fun ζ=>⟨du hy,du hy⟩⟩
 ·subst e1;subst e2;refine aB (qL hb ρb) fun ρc e q=>?_;exact ⟨ρc,by show (names es).bind _=_;refine aa (hn ..) ?_;exact e,by simpa [fe,fT,hn] using q⟩
noncomputable def kL (G:List (Str×V)) (sc scope:Scope) (ts:List Str):Bool :=
 scope.kind==.function&&scope.names.all (fun p=>scope.names.lookup p.1==some p.2&&(match p.2 with
  | .local=>ts.contains p.1||p.1==Str.ofString ".0" | .free=>sc.names.lookup p.1==some .cell||sc.names.lookup p.1==some .free | .globalImplicit=>true | _=>false))
 &&ts.all (fun x=>scope.names.lookup x==some .local&&ww G x)
section
variable {prog:Program}{w:World}{K:Frag}{base:Heap}{c:d8}{X Y:Addr->Prop}{μ μ':Mu}{h h':Heap}{s s':Shared}{Z Z' Z1:ag}{ρ ρ':aL}{env:Env}{A:Around}{E:Value->Shared->Prop}{d e da:V}
structure kT (G:List (Str×V)) (sc scope:Scope) (ts:List Str):Prop where
 kind:scope.kind=.function
 same:∀ p∈scope.names,scope.names.lookup p.1=some p.2
 loc:∀ x,scope.names.lookup x=some .local->x∈ts\/x=Str.ofString ".0"
 free:∀ x,scope.names.lookup x=some .free->sc.names.lookup x=some .cell\/sc.names.lookup x=some .free
 noCell:∀ p∈scope.names,p.2≠.cell
 tgt:∀ x∈ts,scope.names.lookup x=some .local/\yh G x
theorem fD {α:Type}{x:Str}{v:α}:∀ {l:List (Str×α)},l.lookup x=some v->(x,v)∈l
 | [],h=>by simp at h
 | (y,w)::r,h=>by
  rw [List.lookup_cons] at h;split at h
  ·rename_i e;simp at e;subst e;refine bp h ?_;exact .head _
  ·exact .tail _ (fD h)
theorem pL {G:List (Str×V)}{sc scope:Scope}{ts:List Str}(h:kL G sc scope ts=true):kT G sc scope ts:=by
 simp only [kL,Bool.and_eq_true,beq_iff_eq,List.all_eq_true] at h;refine bl h fun Q0 h3=>?_;clear h;refine bl Q0 fun h1 h2=>?_;clear Q0;refine ⟨h1,fun p hp=>(h2 p hp).1,fun x hx=>?_,fun x hx=>?_,fun p hp e=>?_,fun x hx=>?_⟩
 ·have:=(h2 _ (fD hx)).2;simpa using this
 ·have:=(h2 _ (fD hx)).2;simpa using this
 ·have:=(h2 p hp).2;rw [e] at this;exact aM this
 ·exact ⟨(h3 x hx).1,Aj (h3 x hx).2⟩
noncomputable def eo (env:Env):List (Str×NameKind)->List (Str×Addr)->List (Str×Addr)
 | [],cs=>cs
 | (n,k)::r,cs=>eo env r (if k==.free then (n,(env.cells.lookup n).getD 0)::cs else cs)
theorem oX:∀ (names:List (Str×NameKind)) (cs:List (Str×Addr)),(∀ p∈names,p.2=.free->(env.cells.lookup p.1).isSome=true) ->
  (forIn names cs fun x (cs:List (Str×Addr))=>(do
   let (name,kind):=x
   if kind==.free then
    let a ← cellOf env name
    pure (ForInStep.yield ((name,a)::cs))
   else pure (ForInStep.yield cs):Sem (ForInStep (List (Str×Addr)))))=pure (eo env names cs)
 | [],cs,_=>by refine aa (List.forIn_nil ..) ?_;rfl
 | (n,k)::r,cs,hf=>by
  refine aa (List.forIn_cons ..) ?_;by_cases hk:k=.free
  ·subst hk;refine be (ax.mp (hf _ (.head _) rfl)) fun a e=>?_;have:=oX r ((n,a)::cs) fun p hp=>hf p (.tail _ hp);simp only [beq_self_eq_true,if_true,cellOf,e,pure_bind,eo,Option.getD_some];exact this
  ·have hb:(k==NameKind.free)=false:=by simpa using hk
   have:=oX r cs fun p hp=>hf p (.tail _ hp);simp only [hb,Bool.false_eq_true,if_false,pure_bind,eo];exact this
theorem im {x:Str}:∀ (names:List (Str×NameKind)) (cs:List (Str×Addr)),(∀ p∈names,p.2=.free->(env.cells.lookup p.1).isSome=true) ->
  (eo env names cs).lookup x=if (x,NameKind.free)∈names then env.cells.lookup x else cs.lookup x
 | [],cs,_=>by simp [eo]
 | (n,k)::r,cs,hf=>by
  rw [eo,im r _ fun p hp=>hf p (.tail _ hp)];by_cases hr:(x,NameKind.free)∈r
  ·exact aa (if_pos hr ..) (aa (if_pos (.tail _ hr) ..) rfl)
  ·refine aa (if_neg hr ..) ?_;by_cases hk:k=.free
   ·subst hk;simp only [beq_self_eq_true,if_true,List.lookup_cons];by_cases hx:x=n
    ·subst hx;refine aa (if_pos (.head _) ..) ?_;refine be (ax.mp (hf _ (.head _) rfl)) fun a e=>?_;simp [e]
    ·have:(x==n)=false:=by simpa using hx
     rw [this,if_neg];intro z;rcases List.mem_cons.mp z with z | z
     ·cases z;exact hx rfl
     ·exact hr z
   ·have hb:(k==NameKind.free)=false:=by simpa using hk
    simp only [hb,Bool.false_eq_true,if_false];rw [if_neg];intro z;rcases List.mem_cons.mp z with z | z
    ·cases z;exact hk rfl
    ·exact hr z
theorem lN {names:List (Str×NameKind)}{x:Str}:(names.map fun (n,k)=>if (k==NameKind.free&&env.scope.kind==.function&&env.kindOf n==some .cell) then (n,NameKind.cell) else (n,k)).lookup x =
  (names.lookup x).map fun k=>if (k==NameKind.free&&env.scope.kind==.function&&env.kindOf x==some .cell) then NameKind.cell else k:=by
 induction names with
 | nil=>rfl
 | cons p r ih =>
  obtain ⟨n,k⟩:=p;refine aa (List.map_cons ..) ?_;by_cases hx:x=n
  ·subst hx;have e1:List.lookup x ((x,k)::r)=some k:=by simp [List.lookup_cons]
   refine aa (e1 ..) ?_;show List.lookup x ((if (k==NameKind.free&&env.scope.kind==.function&&env.kindOf x==some .cell)=true then (x,NameKind.cell) else (x,k))::_)=_
   split
   ·rename_i z;refine aa (List.lookup_cons ..) (aa (beq_self_eq_true ..) ?_);simp only [Option.map_some,if_pos z]
   ·rename_i z;refine aa (List.lookup_cons ..) (aa (beq_self_eq_true ..) ?_);simp only [Option.map_some,if_neg z]
  ·have hb:(x==n)=false:=by simpa using hx
   have e1:List.lookup x ((n,k)::r)=List.lookup x r:=by simp [List.lookup_cons,hb]
   refine aa (e1 ..) (aa (aH (ih ..)) ?_);show List.lookup x ((if (k==NameKind.free&&env.scope.kind==.function&&env.kindOf n==some .cell)=true then (n,NameKind.cell) else (n,k))::_)=_
   split<;>simp [List.lookup_cons,hb]
theorem mf {scope:Scope}{ts:List Str}{C:Addr}{X1:Addr->Prop}(R:bE c.G X μ s.heap env ρ) (S:kT c.G env.scope scope ts) (hC:s.heap.get? C=none) (hX:∀ a,X a->X1 a) (hXC:X1 C) (hX1:∀ a,X1 a->X a\/s.heap.get? a=none)
  {m:Str->Option Value}(hn:h'.Ns C m) (hk:∀ a o,s.heap.get? a=some o->h'.get? a=some o) :
  closureFor scope env=pure (eo env scope.names [])/\bE c.G X1 μ h' (compEnvC scope (eo env scope.names []) C env) (lE scope ρ):=by
 have hsome:∀ p∈scope.names,p.2=.free->(env.cells.lookup p.1).isSome=true:=fun p hp e=>by
  have:=S.same p hp;rw [e] at this;refine bQ (R.cel p.1 (S.free p.1 this)) fun a v h1 _=>?_;refine aa (h1 ..) ?_;rfl
 have kind:∀ x,(compEnvC scope (eo env scope.names []) C env).kindOf x=(scope.names.lookup x).map fun k=>if (k==NameKind.free&&env.scope.kind==.function&&env.kindOf x==some .cell) then NameKind.cell else k:=fun x=>lN;have isF:∀ x,((compEnvC scope (eo env scope.names []) C env).kindOf x=some .cell\/(compEnvC scope (eo env scope.names []) C env).kindOf x=some .free)->scope.names.lookup x=some .free:=fun x q=>by
  rw [kind] at q
  induction z:scope.names.lookup x using Oy with
  | none=>rw [z] at q;simp at q
  | some k =>
   rw [z] at q
   induction k using NameKind.casesOn with
   | free=>rfl
   | cell=>exact absurd rfl (S.noCell _ (fD z))
   | _=>simp at q
 have cel:∀ x,scope.names.lookup x=some .free->(compEnvC scope (eo env scope.names []) C env).cells.lookup x=env.cells.lookup x:=fun x q=>by
  show (eo env scope.names []).lookup x=_;exact aa (im _ _ hsome ..) (aa (if_pos (fD q) ..) rfl)
 have isC:∀ a v,s.heap.IsCell a v->h'.IsCell a v:=fun a v ⟨o,e,q⟩=>⟨o,hk _ _ e,q⟩;refine ⟨?_,S.kind,R.glo,R.bui,hXC,fun x d e=>?_,⟨m,hn,fun x d e=>?_⟩,fun x q=>?_,fun x y a q1 q2 e1 e2=>?_⟩
 ·unfold closureFor;simp only [];have:=oX (env:=env) scope.names [] hsome;refine aa (show (forIn scope.names ([]:List (Str×Addr)) _:Sem (List (Str×Addr)))=_ from this ..) ?_;rfl
 ·rw [gS] at e;refine ju e (fun _ e=>?_) fun _ e=>?_
  ·exact aw e
  ·exact R.noG x d e
 ·rw [gS] at e;refine ju e (fun _ e=>?_) fun _ e=>?_
  ·exact aw e
  ·rename_i q;refine aB (R.ns) fun ma _ hv=>?_;refine ⟨fun k=>?_,fun k=>?_⟩
   ·rw [kind] at k
    induction z:scope.names.lookup x using Oy with
    | none=>rw [z] at k;exact aw k
    | some k' =>
     rw [z] at k
     induction k' using NameKind.casesOn with
     | «local»=>exact absurd z q
     | free =>
      have k:some (if (NameKind.free==NameKind.free&&env.scope.kind==.function&&env.kindOf x==some .cell)=true then NameKind.cell else NameKind.free)=some NameKind.local:=k;exact ju (aq k) (fun _ e=>nomatch e) fun _ e=>nomatch e
     | _=>exact nomatch (show some _=some NameKind.local from k)
   ·have f:=isF x k;exact bK ((hv x d e).2 (S.free x f)) fun a v h1 h2 h3 h4=>⟨a,v,(cel x f).trans h1,isC _ _ h2,hX _ h3,h4.mono (fun a o _ e=>hk a o e) (fc.refl _ _) hX1⟩
 ·have f:=isF x q;refine bK (R.cel x (S.free x f)) fun a v h1 h2 h3 h4=>?_;refine ⟨a,v,(cel x f).trans h1,isC _ _ h2,hX _ h3,?_⟩
  rintro rfl
  refine aB h2 fun o e _=>?_;clear h2;exact absurd (hC.symm.trans e) (by simp)
 ·have f1:=isF x q1;have f2:=isF y q2;rw [cel x f1] at e1;rw [cel y f2] at e2;exact R.one x y a (S.free x f1) (S.free y f2) e1 e2
end
section
variable {prog:Program}{w:World}{K:Frag}{base:Heap}{c:d8}{X X1:Addr->Prop}{μ μ':Mu}{h h':Heap}{s s0 s':Shared}{Z Z' Z1:ag}{ρ ρb ρ':aL}{env cenv:Env}{A:Around}{E:Value->Shared->Prop}{d e da:V}
theorem bE.weak {G:List (Str×V)}(R:bE G X μ h env ρ') (hl:∀ x d,lk x ρ=some d->lk x ρ'=some d):bE G X μ h env ρ :=
 ⟨R.kind,R.glo,R.bui,R.bar,fun x d e=>R.noG x d (hl x d e),aB R.ns fun m h1 h2=>⟨m,h1,fun x d e=>h2 x d (hl x d e)⟩,R.cel,R.one⟩
theorem bE.stpW {W:Addr->Prop}(p:Stp W μ μ' s s') (off:∀ a,eD μ a->¬X a) (hWX:∀ a,W a->X a) (hl:¬W env.locals) (hc:∀ x,(env.kindOf x=some .cell\/env.kindOf x=some .free)->∀ a,env.cells.lookup x=some a->¬W a)
  {G:List (Str×V)}(R:bE G X μ s.heap env ρ):bE G X μ' s'.heap env ρ:=by
 have cellK:∀ x a o,(env.kindOf x=some .cell\/env.kindOf x=some .free)->env.cells.lookup x=some a->X a->s.heap.get? a=some o->s'.heap.get? a=some o:=fun x a o k e xa g=>p.keep a o (fun l=>off a l xa) (hc x k a e) g;exact R.imp (fun ζ ζ q=>q.stpW p hWX) R.bar (fun o e=>p.keep _ o (fun l=>off _ l R.bar) hl e) fun x a ζ k e h h3=>⟨aB h fun o g z=>⟨o,cellK x a o k e h3 g,z⟩,h3⟩
theorem aS.grow2 (H:aS prog w X1 μ h base Z) (hX:∀ a,X a->X1 a) (hk:∀ a o,h.get? a=some o->¬X1 a->h'.get? a=some o) (ht:∀ a,X a->(h'.get? a).isSome=true):aS prog w X μ h' base Z where
 len:=H.len
 cell:=fun k c e=>(H.cell k c e).imp id fun ⟨a,e1,r⟩=>⟨a,e1,r.mono hk (fun a x=>.inl (hX a x)) (H.off a (cE e1))⟩
 inj:=H.inj
 stays:=fun a o e=>hk a o (H.stays a o e) fun x=>by have:=H.apart a (.inr x);rw [e] at this;exact gQ this
 apart:=fun a b=>H.apart a (b.imp id (hX a))
 here:=fun a b=>b.elim (fun l=>by
  refine be (ax.mp (H.here a (.inl l))) fun o e=>?_;refine aa (hk a o e (H.off a l) ..) ?_;rfl) (ht a)
 off:=fun a l x=>H.off a l (hX a x)
noncomputable def mL (prog:Program) (w:World) (base:Heap) (G:List (Str×V)) (X1:Addr->Prop) (D:Addr) (A:Around) (cenv:Env) (ρb:aL) (g:aL->ag->Option (List V×ag)) (body:Sem Unit):Prop :=
 ∀ (ρa:aL) (Z1 Z2:ag) (ra outs:List V) (acc:List Value) (n:Nat) (μ1:Mu) (sa:Shared) (E:Value->Shared->Prop),g ρa Z1=some (ra,Z2)->(∀ x d,lk x ρb=some d->lk x ρa=some d)->bE G X1 μ1 sa.heap cenv ρa->bE G X1 μ1 sa.heap cenv ρb->aS prog w X1 μ1 sa.heap base Z1 ->
  IsL sa.heap D acc.toArray n->aG X1 μ1 sa.heap outs acc->outs.length+ra.length<=sizeLine ->
  wpAny (model prog w) A body (fun ζ sb=>∃ μ2 acc' n',Stp (fun a=>a=D\/a=cenv.locals) μ1 μ2 sa sb/\aS prog w X1 μ2 sb.heap base Z2/\bE G X1 μ2 sb.heap cenv ρb/\IsL sb.heap D acc'.toArray n'/\aG X1 μ2 sb.heap (outs++ra) acc') E sa
theorem nR {f:V->ag->Option (List V×ag)}{v:V}{vs:List V}{r:List V}(h:cz f (v::vs) Z=some (r,Z')):∃ ra Z1 rb,f v Z=some (ra,Z1)/\cz f vs Z1=some (rb,Z')/\r=ra++rb:=by
 unfold cz at h;refine bA h fun a Z1 h1 h2=>?_;clear h;refine f8 h2 fun b Z2 h3 h4=>?_;clear h2;refine eU h4 ?_;exact ⟨a,Z1,b,h1,h3,rfl⟩
theorem kG {ex t:Expr}{dep:Nat}{I D:Addr}{p:Pos}{body:Sem Unit}{g:aL->ag->Option (List V×ag)}{fp:List Addr}{P:Nat->Value->Prop}{St:Nat->Heap->Prop}{l r outs:List V}{acc:List Value}{n k:Nat}{R:Result->Shared->Prop}
  (ro:bY A k) (hq:(Code.compLoop ex dep (.ref I) (.ref D) cenv).quiet=true)
  (hden:∀ {Q:Fin->Shared->Prop}{E:Value->Shared->Prop}{s:Shared},wpAny (model prog w) A (compTurn ex dep (.ref I) (.ref D) cenv) Q (notedBy (model prog w) A cenv E) s->wpAny (model prog w) (A.under (Code.compLoop ex dep (.ref I) (.ref D) cenv)) ((model prog w).den (Code.compLoop ex dep (.ref I) (.ref D) cenv)) Q E s)
  (hturn:compTurn ex dep (.ref I) (.ref D) cenv=(standAt p >>= fun ζ=>pyNext (.ref I) >>= fun r=>match r with
   | none=>pure (.done .next)
   | some v=>letOwnedTupleGo t (.ref I) v >>= fun ζ=>assign t cenv v >>= fun ζ=>body >>= fun ζ=>again (.compLoop ex dep (.ref I) (.ref D) cenv)))
  (hbody:mL prog w base c.G X1 D A cenv ρb g body)
  (wk:sD prog w A X μ s0.heap I fp P St l)
  (hX:∀ a,X a->X1 a) (hX1:∀ a,X1 a->X a\/s0.heap.get? a=none) (xI:X1 I) (xD:X1 D) (xC:X1 cenv.locals) (nI:s0.heap.get? I=none)
  (hcel:∀ x,(cenv.kindOf x=some .cell\/cenv.kindOf x=some .free)->∀ a,cenv.cells.lookup x=some a->a≠I/\a≠D) (dIC:I≠cenv.locals) (dDC:D≠cenv.locals) (dID:I≠D)
  (ts:(fU t).all (dJ c.G cenv.scope)=true) (tl:∀ x∈fU t,cenv.kindOf x=some .local) (hρ:∀ x,x∉fU t->lk x ρ=lk x ρb) (hno:∀ x∈fU t,lk x ρb=none) (hr:outs.length+r.length<=sizeLine)
  (st:St 0 s.heap) (Pd:Stp (fun a=>a=D\/a=cenv.locals) μ μ' s0 s) (H:aS prog w X1 μ' s.heap base Z) (Rc:bE c.G X1 μ' s.heap cenv ρb) (hD:IsL s.heap D acc.toArray n) (hacc:aG X1 μ' s.heap outs acc)
  (hf:cz (fun v Z=>(b6 t v ρ).bind fun ρa=>g ρa Z) l Z=some (r,Z'))
  (hR:∀ s' μ2 acc' n',Stp (fun a=>a=D\/a=cenv.locals) μ μ2 s0 s'->aS prog w (fun a=>X1 a/\a≠I) μ2 s'.heap base Z'->bE c.G (fun a=>X1 a/\a≠I) μ2 s'.heap cenv ρb->IsL s'.heap D acc'.toArray n'->aG (fun a=>X1 a/\a≠I) μ2 s'.heap (outs++r) acc'->R (.ok .next) s') :
  codeAny (model prog w) A (.compLoop ex dep (.ref I) (.ref D) cenv) R s:=by
 let V:Addr->Prop:=fun a=>a=D\/a=cenv.locals
 let W:Addr->Prop:=fun a=>a=I\/V a
 have hWX:∀ a,W a->X1 a:=fun a q=>by rcases q with rfl | rfl | rfl<;>assumption
 have hVX:∀ a,V a->X1 a:=fun a q=>hWX a (.inr q);have narrow:∀ {μ1:Mu}{sa:Shared},Stp W μ μ1 s0 sa->Stp V μ μ1 s0 sa:=fun p=>⟨p.same,fun a o nl nv e=>p.keep a o nl (fun q=>q.elim (fun z=>by rw [z,nI] at e;exact aw e) nv) e,p.there,p.ext⟩;have stay:∀ {μ2:Mu}{sa sb:Shared}{j:Nat},(∀ a,eD μ2 a->eD μ a\/s0.heap.get? a=none)->(∀ a,X1 a->¬eD μ2 a)->(∀ a o,¬eD μ2 a->¬V a->sa.heap.get? a=some o->sb.heap.get? a=some o)->St j sa.heap->St j sb.heap:=fun lv off hk st =>
  wk.W.frame _ _ _ st fun b hb o e=>by
   rcases wk.fpOk b hb with rfl | ⟨nb,al⟩
   ·exact hk b o (off b xI) (fun z=>z.elim (fun z=>dID z) fun z=>dIC z) e
   ·refine hk b o (fun l=>(lv b l).elim (fun l=>nb (.inl l)) fun z=>by rw [z] at al;exact aM al) (fun z=>?_) e;rcases hX1 b (hVX b z) with x | x
    ·exact nb (.inr x)
    ·rw [x] at al;exact aM al
 refine codeAny_loop hq (fun m s'=>∃ (j:Nat) (μ1:Mu) (Z1:ag) (os rs:List Mine.V) (ac:List Value) (n':Nat),j<=l.length/\m=l.length - j/\St j s'.heap/\Stp V μ μ1 s0 s'/\aS prog w X1 μ1 s'.heap base Z1/\bE c.G X1 μ1 s'.heap cenv ρb /\
  IsL s'.heap D ac.toArray n'/\aG X1 μ1 s'.heap os ac/\cz (fun v Z=>(b6 t v ρ).bind fun ρa=>g ρa Z) (l.drop j) Z1=some (rs,Z')/\os++rs=outs++r) ?_ (l.length - 0)
  ⟨0,μ',Z,outs,r,acc,n,Nat.zero_le _,rfl,st,Pd,H,Rc,hD,hacc,hf,rfl⟩
 rintro m s' ⟨j,μ1,Z1,os,rs,ac,n',hj,rfl,st',P',H',R',D',acc',f',e'⟩
 refine hden ?_;refine aa (hturn ..) ?_;refine ab (wpAny_standAt (ab ?_));by_cases hlt:j<l.length
 ·refine wk.W.item j s' _ _ hlt st' fun v hJ tk hP sta hk1=>?_;refine aB (wk.cls (j+1) hJ sta) fun oI hoI hclI=>?_;have qI:Stp (·=I) μ1 μ1 s' { s' with heap:=hJ,toks:=tk }:=⟨⟨_,_,rfl⟩,fun a o ζ nw e=>hk1 a o (fun z=>nw (an.mp z)) e,fun a z=>by
   by_cases q:a=I
   ·subst q;show (hJ.get? _).isSome=true;refine aa (hoI ..) ?_;rfl
   ·refine be (ax.mp z) fun o e=>?_;show (hJ.get? a).isSome=true;refine aa (hk1 a o (fun z=>q (an.mp z)) e ..) ?_;rfl,fc.refl _ _⟩
  have hIX:∀ a,a=I->X1 a:=fun a z=>z▸xI;have Hd:aS prog w X1 μ1 hJ base Z1:=H'.grow (fun a o e nx=>hk1 a o (fun z=>nx (an.mp z▸xI)) e) qI.there fun ζ x=>.inl x;have R1:bE c.G X1 μ1 hJ cenv ρb:=R'.stpW qI H'.off hIX (fun z=>dIC z.symm) fun x k a e=>(hcel x k a e).1;have Pc:Stp V μ μ1 s0 { s' with heap:=hJ,toks:=tk }:=narrow ((P'.wide fun ζ q=>.inr q).trans (qI.wide fun ζ q=>.inl q));have Dd:IsL hJ D ac.toArray n':=hk1 _ _ (fun z=>dID (an.mp z).symm) D';have acc1:aG X1 μ1 hJ os ac:=acc'.stpW qI hIX;have hd:l.drop j=l[j]::l.drop (j+1):=List.drop_eq_getElem_cons hlt;rw [hd] at f';refine dm (nR f') fun ra Z2 rb g1 g2 Q0=>?_;subst Q0;refine dv g1 fun ρa b1 b2=>?_;clear g1;have rv:bh X1 μ1 hJ l[j] v:=(wk.item j v l[j] hP (au hlt)).mono' (fun a o nb e=>Pc.keep a o (fun l=>nb (.inl l)) (fun q=>(hX1 a (hVX a q)).elim (fun x=>nb (.inr x)) fun z=>by rw [z] at e;exact aw e) e) Pc.ext.ext
   fun a q=>q.elim (fun l=>(Pc.ext.new a l).imp .inl id) fun x=>(hX1 a x).imp .inr id
  refine ab (kz (s:={ s' with heap:=hJ,toks:=tk }) hoI hclI ?_);refine aB (uR b1 ρb) fun ρc b3 b4=>?_;have hCX:∀ a,a=cenv.locals->X1 a:=fun a z=>z▸xC;refine ab (mw (s:={ s' with heap:=hJ,toks:=tk }) (W:=(·=cenv.locals)) ro.handled Hd R1 ts (fun x hx a sp=>?_) hCX rv b3 fun sb pb He R2=>?_)
  ·rcases sp with ⟨_,e⟩ | ⟨k,_⟩
   ·exact e
   ·rw [tl x hx] at k;cases k
  have R2':bE c.G X1 μ1 sb.heap cenv ρa:=R2.weak fun x d e=>by
   by_cases hx:x∈fU t
   ·refine aa ((b4 x).1 hx ..) ?_;exact e
   ·refine bl ((b4 x).2 hx) fun z1 z2=>?_;refine aa (z2 ..) (aa (aH (hρ x hx ..)) (aa (aH (z1 ..)) ?_));exact e
  have R20:bE c.G X1 μ1 sb.heap cenv ρb:=R2.weak fun x d e=>by
   by_cases hx:x∈fU t
   ·exact absurd e (by refine aa (hno x hx ..) ?_;simp)
   ·refine aa (((b4 x).2 hx).2 ..) ?_;exact e
  have hsub:∀ x d,lk x ρb=some d->lk x ρa=some d:=fun x d e=>by
   have hx:x∉fU t:=fun hx=>by rw [hno x hx] at e;exact aw e
   refine aa (((b4 x).2 hx).1 ..) (aa (hρ x hx ..) ?_);exact e
  have Pa:Stp V μ μ1 s0 sb:=Pc.trans (pb.wide fun ζ z=>.inr z);have D2:IsL sb.heap D ac.toArray n':=pb.keep _ _ (fun l=>Hd.off _ l xD) (fun z=>dDC z) Dd;have acc2:aG X1 μ1 sb.heap os ac:=acc1.stpW pb hCX;have stb:St (j+1) sb.heap:=stay (sa:={ s' with heap:=hJ,toks:=tk }) Pc.ext.new (fun a x l=>Hd.off a l x) (fun a o nl nw e=>pb.keep a o nl (fun z=>nw (.inr z)) e) sta;refine ab (az (hbody ρa Z1 Z2 ra os ac n' μ1 sb _ b2 hsub R2' R20 He D2 acc2 (by have:=congrArg List.length e';simp only [ai] at this hr ⊢;exact Hv hr this)) (fun ζ se hY=>?_) fun ζ ζ x=>x);refine fX hY fun μ2 ac' n'' pc Hf R3 D3 acc3=>?_;clear hY;have Pb:Stp V μ μ2 s0 se:=Pa.trans pc;refine av ⟨rfl,l.length - (j+1),by exact Et hlt,j+1,μ2,Z2,os++ra,rb,ac',n'',by exact El hlt,rfl,?_,Pb,Hf,R3,D3,acc3,g2,by refine aa (List.append_assoc ..) ?_;exact e'⟩;exact stay (sa:=sb) Pa.ext.new (fun a x l=>He.off a l x) (fun a o nl nw e=>pc.keep a o nl nw e) stb
 ·obtain rfl:j=l.length:=Es hj hlt;refine wk.W.done s' _ _ st' fun hJ tk hk1=>?_;rw [List.drop_length] at f';simp only [cz] at f'
  cases f'
  rw [List.append_nil] at e';subst e';have kI:∀ a o,a≠I->s'.heap.get? a=some o->hJ.get? a=some o:=fun a o ne e=>hk1 a o (fun z=>ne (an.mp z)) e;have Pc:Stp V μ μ1 s0 { s' with heap:=hJ,toks:=tk }:=by
   obtain ⟨⟨h2,t2,e2⟩,k2,t3,x2⟩:=P';refine ⟨⟨hJ,tk,by exact aa (e2 ..) rfl⟩,fun a o nl nv e=>kI a o (fun z=>by rw [z,nI] at e;exact aw e) (k2 a o nl nv e),fun a z=>?_,x2⟩;refine be (ax.mp (t3 a z)) fun o e=>?_;show (hJ.get? a).isSome=true;refine aa (kI a o (fun y=>by rw [y,nI] at z;exact aM z) e ..) ?_;rfl
  have mv:∀ a o,¬dY X1 μ1 a->s'.heap.get? a=some o->hJ.get? a=some o:=fun a o nb e=>kI a o (fun z=>nb (.inr (z▸xI))) e;have Hd:aS prog w (fun a=>X1 a/\a≠I) μ1 hJ base Z':=H'.grow2 (fun a x=>x.1) (fun a o e nx=>kI a o (fun z=>nx (z▸xI)) e) fun a x=>by
   refine be (ax.mp (H'.here a (.inr x.1))) fun o e=>?_;refine aa (kI a o x.2 e ..) ?_;rfl
  have toB:∀ a,dY (fun a=>X1 a/\a≠I) μ1 a->dY X1 μ1 a\/s'.heap.get? a=none:=fun a q=>.inl (q.imp id (·.1));have rm:∀ {d:Mine.V}{v:Value},bh X1 μ1 s'.heap d v->bh (fun a=>X1 a/\a≠I) μ1 hJ d v:=fun r=>r.mono' mv (fun ζ ζ b e=>⟨b,e⟩) toB;refine av (hR { s' with heap:=hJ,toks:=tk } μ1 ac n' Pc Hd (R'.imp (fun ζ ζ=>rm) ⟨xC,fun z=>dIC z.symm⟩ (fun o e=>kI _ o (fun z=>dIC z.symm) e) fun x a ζ k e h h3=>⟨aB h fun o g z=>⟨o,kI a o (hcel x k a e).1 g,z⟩,h3,(hcel x k a e).1⟩) (kI _ _ (fun z=>dID z.symm) D') (acc'.mono' mv (fun ζ ζ b e=>⟨b,e⟩) toB))
end
noncomputable def jy (ifs:List Expr) (env:Env):Sem Bool:=forIn ifs true fun c r=>if r=true then do let ok ← isTrue c env (eval c env);pure (ForInStep.yield ok) else pure (ForInStep.yield r)
noncomputable def ii (elt:Expr) (acc:Value) (env:Env):Sem Unit:=do let _ ← call (.builtin "list.append") [acc,← eval elt env]
noncomputable def qE (ifs:List Expr) (elt:Expr) (acc:Value) (env:Env):Sem Unit:=jy ifs env >>= fun ok=>if ok=true then ii elt acc env else pure ()
theorem DI (elt t iter:Expr) (ifs:List Expr) (scope:Scope) (pos:Pos) (it acc:Value) (env:Env) :
  compTurn (.ListComp elt [⟨t,iter,ifs,0⟩] scope pos) 0 it acc env=(standAt iter.pos >>= fun ζ=>pyNext it >>= fun r=>match r with
   | none=>pure (.done .next)
   | some v=>letOwnedTupleGo t it v >>= fun ζ=>assign t env v >>= fun ζ=>qE ifs elt acc env >>= fun ζ=>again (.compLoop (.ListComp elt [⟨t,iter,ifs,0⟩] scope pos) 0 it acc env)):=by
 refine aa (compTurn_list ..) ?_;congr 1
 funext _
 congr 1
 funext r
 induction r using Oy with
 | none=>rfl
 | some v =>
  dsimp only;congr 1
  funext _
  congr 1
  funext _
  unfold qE jy;refine Eq.trans ?_ (bind_assoc _ _ _).symm;refine congrArg (Bind.bind (m:=Sem) (forIn ifs true fun c r=>if r=true then do let ok ← isTrue c env (eval c env);pure (ForInStep.yield ok) else pure (ForInStep.yield r))) (funext fun ok=>?_)
  induction ok using Oz with
  | true=>simp [ii]
  | false=>simp
noncomputable def mt (e:Expr) (it2:Expr) (acc:Value) (env:Env):Sem Unit:=do
 let x ← eval it2 env
 standAt it2.pos
 let x ← foldedSetIterable it2 env x
 let _ ← runOwn (.compStart e 1 (← holding [x] (pyIter x)) acc env) env
theorem A8 (elt t iter t2 it2:Expr) (scope:Scope) (pos:Pos) (it acc:Value) (env:Env) :
  compTurn (.ListComp elt [⟨t,iter,[],0⟩,⟨t2,it2,[],0⟩] scope pos) 0 it acc env=(standAt iter.pos >>= fun ζ=>pyNext it >>= fun r=>match r with
   | none=>pure (.done .next)
   | some v=>letOwnedTupleGo t it v >>= fun ζ=>assign t env v >>= fun ζ=>mt (.ListComp elt [⟨t,iter,[],0⟩,⟨t2,it2,[],0⟩] scope pos) it2 acc env >>= fun ζ=>again (.compLoop (.ListComp elt [⟨t,iter,[],0⟩,⟨t2,it2,[],0⟩] scope pos) 0 it acc env)):=by
 have e:compTurn (.ListComp elt [⟨t,iter,[],0⟩,⟨t2,it2,[],0⟩] scope pos) 0 it acc env=(do
   standAt iter.pos
   match ← pyNext it with
   | none=>pure (.done .next)
   | some v =>
    letOwnedTupleGo t it v
    assign t env v
    let x ← eval it2 env
    standAt it2.pos
    let x ← foldedSetIterable it2 env x
    let _ ← runOwn (.compStart (.ListComp elt [⟨t,iter,[],0⟩,⟨t2,it2,[],0⟩] scope pos) 1 (← holding [x] (pyIter x)) acc env) env
    again (.compLoop (.ListComp elt [⟨t,iter,[],0⟩,⟨t2,it2,[],0⟩] scope pos) 0 it acc env)):=by rfl
 refine aa (e ..) ?_;congr 1
 funext _
 congr 1
 funext r
 induction r using Oy with
 | none=>rfl
 | some v =>
  dsimp only;congr 1
  funext _
  congr 1
  funext _
  unfold mt;simp
theorem A9 (elt t iter t2 it2:Expr) (scope:Scope) (pos:Pos) (it acc:Value) (env:Env) :
  compTurn (.ListComp elt [⟨t,iter,[],0⟩,⟨t2,it2,[],0⟩] scope pos) 1 it acc env=(standAt it2.pos >>= fun ζ=>pyNext it >>= fun r=>match r with
   | none=>pure (.done .next)
   | some v=>letOwnedTupleGo t2 it v >>= fun ζ=>assign t2 env v >>= fun ζ=>ii elt acc env >>= fun ζ=>again (.compLoop (.ListComp elt [⟨t,iter,[],0⟩,⟨t2,it2,[],0⟩] scope pos) 1 it acc env)):=by
 have e:compTurn (.ListComp elt [⟨t,iter,[],0⟩,⟨t2,it2,[],0⟩] scope pos) 1 it acc env=(do
   standAt it2.pos
   match ← pyNext it with
   | none=>pure (.done .next)
   | some v =>
    letOwnedTupleGo t2 it v
    assign t2 env v
    (do let _ ← call (.builtin "list.append") [acc,← eval elt env])
    again (.compLoop (.ListComp elt [⟨t,iter,[],0⟩,⟨t2,it2,[],0⟩] scope pos) 1 it acc env)):=by rfl
 refine aa (e ..) ?_;rfl
noncomputable def jl (scope sc:Scope):Scope:={ scope with names:=scope.names.map fun (n,k)=>if (k==.free&&sc.kind==.function&&sc.names.lookup n==some .cell) then (n,.cell) else (n,k) }
noncomputable def wS:Option Expr->Bool
 | some (.Constant (.str _) _ _)=>true
 | _=>false
noncomputable def jV:List (Option Expr)->List Expr->Bool
 | [],[]=>true
 | k::ks,_::vs=>wS k&&jV ks vs
 | _,_=>false
inductive u7:List (Option Expr)->List Expr->Prop
 | nil:u7 [] []
 | cons {ks:List (Option Expr)}{vs:List Expr}(x:Str) (kk:Nat) (p:Pos) (v:Expr):u7 ks vs->u7 (some (.Constant (.str x) kk p)::ks) (v::vs)
noncomputable def dQ:Expr->Bool
 | .Set ..=>false
 | _=>true
theorem zo {k:Option Expr}(h:wS k=true):∃ x kk p,k=some (.Constant (.str x) kk p):=by
 induction k using Oy with
 | none=>exact aM h
 | some e=>induction e using Expr.casesOn with
  | Constant q kk p=>induction q using Const.casesOn with
   | str x=>exact ⟨x,kk,p,rfl⟩
   | _=>exact aM h
  | _=>exact aM h
theorem oE {ks:List (Option Expr)}:∀ {vs:List Expr},jV ks vs=true->u7 ks vs:=by
 induction ks with
 | nil=>intro vs h;induction vs using OA with
  | nil=>exact .nil
  | cons _ _=>exact aM h
 | cons k ks ih=>intro vs h;induction vs using OA with
  | nil=>exact aM h
  | cons v vs =>
   have h:=ay.mp h;refine xy (zo h.1) fun x kk p Q0=>?_;subst Q0;exact .cons x kk p v (ih h.2)
noncomputable def ws (G:List (Str×V)):Nat->Scope->Expr->Bool
 | 0,_,_=>false
 | _+1,_,.Constant ..=>true
 | _+1,sc,.Name x _=>oz G sc x
 | n+1,sc,.Tuple es _ _=>decide (es.length<=1000)&&es.all dB&&es.all (ws G n sc)
 | n+1,sc,.List es _=>decide (es.length<=1000)&&es.all dB&&es.all (ws G n sc)
 | n+1,sc,.Dict ks vs _=>jV ks vs&&vs.all (ws G n sc)
 | n+1,sc,.BinOp l _ r _=>ws G n sc l&&ws G n sc r
 | n+1,sc,.UnaryOp _ x _=>ws G n sc x
 | n+1,sc,.BoolOp _ es _=>es.all (ws G n sc)
 | n+1,sc,.Compare l _ rs _=>ws G n sc l&&rs.all dQ&&rs.all (ws G n sc)
 | n+1,sc,.IfExp t a b _=>ws G n sc t&&ws G n sc a&&ws G n sc b
 | n+1,sc,.Attribute o _ _=>lH o&&ws G n sc o
 | n+1,sc,.Subscript o (.Slice a u _ _) _=>a.isNone&&ws G n sc o&&(match u with | some u=>ws G n sc u | none=>true)
 | n+1,sc,.Subscript o i _=>!kC i&&ws G n sc o&&ws G n sc i
 | n+1,sc,.Call (.Attribute o _ apos) as _ pos=>lH o&&ws G n sc o&&as.all dB&&as.all (ws G n sc)&&decide (as.length<29)&&apos.endLine==pos.line
 | n+1,sc,.Call (.Name f _) as _ _=>oz G sc f&&as.all dB&&as.all (ws G n sc)
 | n+1,sc,.ListComp elt [⟨t,it,ifs,a⟩] scope _=>a==0&&ws G n sc it&&dQ it&&kL G sc scope (fU t)&&ifs.all (ws G n (jl scope sc))&&ws G n (jl scope sc) elt
 | n+1,sc,.ListComp elt [⟨t1,it,ifs1,a1⟩,⟨t2,it2,ifs2,a2⟩] scope _=>ifs1.isEmpty&&ifs2.isEmpty&&a1==0&&a2==0&&ws G n sc it&&dQ it&&dQ it2&&(match t1,t2 with | .Name x1 _,.Name x2 _=>kL G sc scope [x1,x2] | _,_=>false)&&ws G n (jl scope sc) it2&&ws G n (jl scope sc) elt
 | _,_,_=>false
noncomputable def m7 (prog:Program) (w:World) (base:Heap) (c:d8) (k n:Nat):Prop:=∀ {X:Addr->Prop}{ρ:aL}{Z Z':ag}{e:Expr}{d:V}{μ:Mu}{s:Shared}{env:Env}{A:Around}{m:Nat}(E:Value->Shared->Prop),ev c n ρ Z e=some (d,Z') ->
 ws c.G m env.scope e=true->bY A k->bE c.G X μ s.heap env ρ->aS prog w X μ s.heap base Z->wpAny (model prog w) A (eval e env) (Res prog w base X μ s Z' d) E s
noncomputable def tY (prog:Program) (w:World) (base:Heap) (c:d8) (k n:Nat):Prop:=∀ {X:Addr->Prop}{ρ:aL}{Z Z':ag}{es:List Expr}{b:Bool}{μ:Mu}{s:Shared}{env:Env}{A:Around}{m:Nat}(E:Value->Shared->Prop),tI c n ρ Z es=some (b,Z') ->
 es.all (ws c.G m env.scope)=true->bY A k->bE c.G X μ s.heap env ρ->aS prog w X μ s.heap base Z->wpAny (model prog w) A (jy es env) (j9 prog w base X μ s Z' b) E s
section
variable {prog:Program}{w:World}{K:Frag}{base:Heap}{c:d8}{X X1:Addr->Prop}{μ μ':Mu}{h h':Heap}{s s0 s':Shared}{Z Z' Z1:ag}{ρ ρb ρ':aL}{env cenv:Env}{A:Around}{E:Value->Shared->Prop}{d e da:V}
theorem tK {n k m:Nat}{elt:Expr}{D:Addr}(hE:m7 prog w base c k n) (ro:bY A k) (hw:ws c.G m cenv.scope elt=true) (xD:X1 D) (dDC:D≠cenv.locals)
  (hcel:∀ x,(cenv.kindOf x=some .cell\/cenv.kindOf x=some .free)->∀ a,cenv.cells.lookup x=some a->a≠D) :
  mL prog w base c.G X1 D A cenv ρb (fun ρ Z=>(ev c n ρ Z elt).map fun (y,Z)=>([y],Z)) (ii elt (.ref D) cenv):=by
 intro ρa Z1 Z2 ra outs acc na μ1 sa E hg hsub R R0 H hD hacc hsz;refine f8 hg fun y Z3 h1 h2=>?_;clear hg
 cases h2
 unfold ii;refine ab (az (hE E h1 hw ro R H) (fun v sb hv=>?_) fun ζ ζ x=>x);refine Res.el (hv) fun μ2 pb He rb=>?_;clear hv;have D2:IsL sb.heap D acc.toArray na:=pb.keep _ _ (fun l=>H.off _ l xD) (fun q=>q) hD;have hlen:=hacc.length;have hDX:∀ a,a=D->X1 a:=fun a z=>z▸xD;refine ab (wpAny_list_append_plain ⟨na,D2⟩ (fun hY hl hs=>?_) (by refine aa (aC ..) ?_;simp only [aE] at hsz;exact Ht hsz hlen));refine be hl fun nh hl=>?_;have ht:(hY.get? D).isSome=true:=by refine aa (hl ..) ?_;rfl
 have pc:Stp (·=D) μ2 μ2 sb { sb with heap:=hY }:=Stp.of_same (tk:=sb.toks) (.inr rfl) hs ht;have p:Stp (·=D) μ1 μ2 sa { sb with heap:=hY }:=(pb.wide fun ζ q=>q.elim).trans pc;have Hf:aS prog w X1 μ2 hY base Z2:=He.grow (fun a o e nx=>(hs.2 a (by rintro rfl;exact nx xD)).trans e) pc.there fun ζ x=>.inl x;refine av ⟨μ2,acc++[v],nh,p.wide fun ζ z=>.inl z,Hf,?_,?_,?_⟩
 ·exact R0.stpW p H.off hDX (fun z=>dDC z.symm) fun x k a e=>hcel x k a e
 ·have:(acc.toArray.push v)=(acc++[v]).toArray:=by simp
  refine aa (aH (this ..)) ?_;exact hl
 ·exact ((hacc.stp pb).append (.cons rb .nil)).stpW pc hDX
theorem xR {n k m:Nat}{elt:Expr}{ifs:List Expr}{D:Addr}(hE:m7 prog w base c k n) (hI:tY prog w base c k n) (ro:bY A k) (hw:ws c.G m cenv.scope elt=true) (hi:ifs.all (ws c.G m cenv.scope)=true) (xD:X1 D) (dDC:D≠cenv.locals)
  (hcel:∀ x,(cenv.kindOf x=some .cell\/cenv.kindOf x=some .free)->∀ a,cenv.cells.lookup x=some a->a≠D) :
  mL prog w base c.G X1 D A cenv ρb (fun ρ Z=>(tI c n ρ Z ifs).bind fun (b,Z)=>if b then (ev c n ρ Z elt).map fun (y,Z)=>([y],Z) else some ([],Z)) (qE ifs elt (.ref D) cenv):=by
 intro ρa Z1 Z2 ra outs acc na μ1 sa E hg hsub R R0 H hD hacc hsz;refine bA hg fun b Z3 h1 h2=>?_;clear hg;unfold qE;refine ab (az (hI E h1 hi ro R H) (fun ok sb hv=>?_) fun ζ ζ x=>x);obtain ⟨rfl,μ2,pb,He⟩:=hv;have D2:IsL sb.heap D acc.toArray na:=pb.keep _ _ (fun l=>H.off _ l xD) (fun q=>q) hD
 induction ok using Oz with
 | false =>
  simp only [Bool.false_eq_true,if_false] at h2 ⊢;refine dr h2 ?_;exact av ⟨μ2,acc,na,pb.wide fun ζ q=>q.elim,He,R0.stp pb H.off,D2,by refine aa (List.append_nil ..) ?_;exact hacc.stp pb⟩
 | true =>
  simp only [if_true] at h2 ⊢;refine az (tK hE ro hw xD dDC hcel ρa Z3 Z2 ra outs acc na μ2 sb E h2 hsub (R.stp pb H.off) (R0.stp pb H.off) He D2 (hacc.stp pb) hsz) (fun ζ se hY=>?_) fun ζ ζ x=>x;refine cp hY fun μ3 acc' nh pc q=>?_;clear hY;exact ⟨μ3,acc',nh,(pb.wide fun ζ q=>q.elim).trans pc,q⟩
inductive fS (prog:Program) (w:World) (base:Heap) (X:Addr->Prop) (μ:Mu) (s:Shared) (r:List V) (Z':ag) (D C:Addr) (s':Shared):Prop
 | mk (μ2:Mu) (acc:List Value) (n:Nat) (X2:Addr->Prop) (p:Stp No μ μ2 s s') (x:∀ a,X a->X2 a) (x':∀ a,X2 a->X a\/s.heap.get? a=none) (c:X2 C) (d:X2 D) (ne:D≠C) (nc:s.heap.get? C=none) (nd:s.heap.get? D=none) (H:aS prog w X2 μ2 s'.heap base Z')
   (l:IsL s'.heap D acc.toArray n) (rs:aG X2 μ2 s'.heap r acc) (ns:∃ m,s'.heap.Ns C m)
theorem nP {ex t:Expr}{scope:Scope}{ts:List Str}{u:Value}{l rr:List V}{k:Nat}{p:Pos}{g:aL->ag->Option (List V×ag)}{body:Addr->Env->Sem Unit}{PP:Value->Addr->Result->Shared->Prop}
  (ro:bY A k) (H:aS prog w X μ s.heap base Z) (R:bE c.G X μ s.heap env ρ) (S:kT c.G env.scope scope ts) (r:bh X μ s.heap d u) (hi:items d=some l)
  (hts:∀ x∈fU t,x∈ts) (hρ:∀ x∈ts,x∉fU t->lk x ρ=none) (hr:rr.length<=sizeLine)
  (hf:cz (fun v Z=>(b6 t v ρ).bind fun ρa=>g ρa Z) l Z=some (rr,Z'))
  (hq:∀ I D cenv,(Code.compLoop ex 0 (.ref I) (.ref D) cenv).quiet=true)
  (hden:∀ {I D:Addr}{cenv:Env}{Q:Fin->Shared->Prop}{E:Value->Shared->Prop}{s:Shared},wpAny (model prog w) A (compTurn ex 0 (.ref I) (.ref D) cenv) Q (notedBy (model prog w) A cenv E) s->wpAny (model prog w) (A.under (Code.compLoop ex 0 (.ref I) (.ref D) cenv)) ((model prog w).den (Code.compLoop ex 0 (.ref I) (.ref D) cenv)) Q E s)
  (hturn:∀ I D cenv,compTurn ex 0 (.ref I) (.ref D) cenv=(standAt p >>= fun _=>pyNext (.ref I) >>= fun r=>match r with
   | none=>pure (.done .next)
   | some v=>letOwnedTupleGo t (.ref I) v >>= fun _=>assign t cenv v >>= fun _=>body D cenv >>= fun _=>again (.compLoop ex 0 (.ref I) (.ref D) cenv)))
  (hstart:∀ {I D:Addr}{cenv:Env}{R:Result->Shared->Prop}{s:Shared},codeAny (model prog w) A (.compLoop ex 0 (.ref I) (.ref D) cenv) R s->(∀ Q:Value->Shared->Prop,Q (.ref I) s->∀ E,wpAny (model prog w) A (pyIter (.ref I)) Q E s)->codeAny (model prog w) A (.compStart ex 0 (.ref I) (.ref D) cenv) R s)
  (hbody:∀ (X1:Addr->Prop) (D C:Addr),X1 D->D≠C->X1 C->(∀ x,((compEnvC scope (eo env scope.names []) C env).kindOf x=some .cell\/(compEnvC scope (eo env scope.names []) C env).kindOf x=some .free)->∀ a,(compEnvC scope (eo env scope.names []) C env).cells.lookup x=some a->a≠D/\X1 a) ->
   mL prog w base c.G X1 D A (compEnvC scope (eo env scope.names []) C env) (lE scope ρ) g (body D (compEnvC scope (eo env scope.names []) C env)))
  (hQ:∀ D C s',fS prog w base X μ s rr Z' D C s'->PP (.ref D) C (.ok .next) s') :
  wpAny (model prog w) A (pyIter u) (fun it sb=>wpAny (model prog w) A (newList []) (fun acc se=>wpAny (model prog w) A (newFunctionEnv scope env.globals (eo env scope.names []) [] env.qual none .none (some env)) (fun cenv sf =>
   codeAny (model prog w) A (.compStart ex 0 it acc { cenv with scope:=relabel scope env }) (PP acc cenv.locals) sf) E se) E sb) E s:=by
 refine oF ro H r hi fun o fp P St wk hll st=>?_;refine wpAny_newObj_type (wpAny_newFunctionEnv S.noCell (by intro y hy;simp at hy) (fun hJ hns1 hsb1=>?_) S.kind);dsimp only at hns1 hsb1 ⊢;generalize hH2:(s.heap.push o).push { cls:=.type "list",dict:=none,data:=.seq ([]:List Value).toArray }=H2 at hns1 hsb1 ⊢;have hI:(s.heap.push o).objs.size=s.heap.objs.size+1:=Heap.size_push ..;have hC:H2.objs.size=s.heap.objs.size+1+1:=by exact aa (aH (hH2 ..)) (aa (Heap.size_push ..) (aa (hI ..) rfl))
 have nI:s.heap.get? s.heap.objs.size=none:=bP _;have nD:s.heap.get? (s.heap.push o).objs.size=none:=by
  refine aa (hI ..) ?_
  induction e:s.heap.get? (s.heap.objs.size+1) using Oy with
  | none=>rfl
  | some o=>exact absurd (Heap.lt_size e) (Nat.not_lt_of_le (Nat.le_succ _))
 have nC:s.heap.get? H2.objs.size=none:=by
  refine aa (hC ..) ?_
  induction e:s.heap.get? (s.heap.objs.size+1+1) using Oy with
  | none=>rfl
  | some o=>exact absurd (Heap.lt_size e) (Nat.not_lt_of_le (Nat.le_succ_of_le (Nat.le_succ _)))
 have dID:s.heap.objs.size≠(s.heap.push o).objs.size:=by refine aa (hI ..) ?_;exact Nat.ne_of_lt (Nat.lt_succ_self _)
 have dIC:s.heap.objs.size≠H2.objs.size:=by refine aa (hC ..) ?_;exact Nat.ne_of_lt (Nat.lt_succ_of_lt (Nat.lt_succ_self _))
 have dDC:(s.heap.push o).objs.size≠H2.objs.size:=by refine aa (hC ..) (aa (hI ..) ?_);exact Nat.ne_of_lt (Nat.lt_succ_self _)
 have old:∀ b x,b≠H2.objs.size->(s.heap.push o).get? b=some x->hJ.get? b=some x:=fun b x hb e=>hsb1.extBut b x hb (ak _ (hH2▸ak _ e));have oldS:∀ b x,s.heap.get? b=some x->hJ.get? b=some x:=fun b x e=>old b x (fun z=>by rw [z,nC] at e;exact aw e) (ak _ e);have hDa:IsL hJ (s.heap.push o).objs.size ([]:List Value).toArray 0:=hsb1.extBut _ _ dDC (ak _ (hH2▸aW _ rfl));refine aB (wk.cls 0 _ st) fun oI hoI _=>?_;have hIs:(hJ.get? s.heap.objs.size).isSome=true:=by refine aa (old _ _ dIC hoI ..) ?_;rfl
 have hCs:(hJ.get? H2.objs.size).isSome=true:=by refine cp (hns1) fun o _ _ e _=>?_;clear hns1;refine aa (e ..) ?_;rfl
 let X1:Addr->Prop:=fun a=>X a\/a=s.heap.objs.size\/a=(s.heap.push o).objs.size\/a=H2.objs.size
 have hX:∀ a,X a->X1 a:=fun _ x=>.inl x;have hX1:∀ a,X1 a->X a\/s.heap.get? a=none:=fun a q=>by
  rcases q with q | rfl | rfl | rfl
  ·exact .inl q
  ·exact .inr nI
  ·exact .inr nD
  ·exact .inr nC
 have Hd:aS prog w X1 μ hJ base Z:=H.grow (fun a x e _=>oldS a x e) (bX oldS) fun a q=>by
  rcases q with q | rfl | rfl | rfl
  ·exact .inl q
  ·exact .inr ⟨nI,hIs⟩
  ·exact .inr ⟨nD,by refine aa (hDa ..) ?_;rfl⟩
  ·exact .inr ⟨nC,hCs⟩
 refine bl (mf (X1:=X1) R S nC hX (.inr (.inr (.inr rfl))) hX1 hns1 oldS) fun _ Rc=>?_;have hcel:∀ x,((compEnvC scope (eo env scope.names []) H2.objs.size env).kindOf x=some .cell\/(compEnvC scope (eo env scope.names []) H2.objs.size env).kindOf x=some .free)->∀ a,(compEnvC scope (eo env scope.names []) H2.objs.size env).cells.lookup x=some a->(s.heap.get? a).isSome=true:=fun x k a e=>by
  have hsome:∀ p∈scope.names,p.2=.free->(env.cells.lookup p.1).isSome=true:=fun p hp e=>by
   have:=S.same p hp;rw [e] at this;refine bQ (R.cel p.1 (S.free p.1 this)) fun a v h1 _=>?_;refine aa (h1 ..) ?_;rfl
  have e':(eo env scope.names []).lookup x=some a:=e;rw [im _ _ hsome] at e';refine ju e' (fun _ e'=>?_) fun _ e'=>?_
  ·rename_i hm;have:=S.same _ hm;refine bG (R.cel x (S.free x this)) fun a' v h1 Q0 _=>?_;refine aB Q0 fun o h2 _=>?_;clear Q0;rw [h1] at e';refine bp e' ?_;refine aa (h2 ..) ?_;rfl
  ·simp at e'
 have hcI:∀ x,((compEnvC scope (eo env scope.names []) H2.objs.size env).kindOf x=some .cell\/(compEnvC scope (eo env scope.names []) H2.objs.size env).kindOf x=some .free)->∀ a,(compEnvC scope (eo env scope.names []) H2.objs.size env).cells.lookup x=some a->a≠s.heap.objs.size/\a≠(s.heap.push o).objs.size:=fun x k a e =>
  ⟨fun z=>(by have:=hcel x k a e;rw [z,nI] at this;exact aM this),fun z=>(by have:=hcel x k a e;rw [z,nD] at this;exact aM this)⟩
 have sta:St 0 hJ:=wk.W.frame _ _ _ st fun b hb x e=>by
  refine old b x (fun z=>?_) e;rcases wk.fpOk b hb with q | ⟨_,q⟩
  ·exact dIC (q.symm.trans z)
  ·rw [z,nC] at q;exact aM q
 have Pc:Stp No μ μ s { s with heap:=hJ,toks:=s.toks+([]:List (Str×Value)).length }:=Stp.of_keeps oldS;have loop:codeAny (model prog w) A (.compLoop ex 0 (.ref s.heap.objs.size) (.ref (s.heap.push o).objs.size) (compEnvC scope (eo env scope.names []) H2.objs.size env)) (PP (.ref (s.heap.push o).objs.size) H2.objs.size)
   { s with heap:=hJ,toks:=s.toks+([]:List (Str×Value)).length }:=by
  refine kG (s0:=s) (s:={ s with heap:=hJ,toks:=s.toks+([]:List (Str×Value)).length }) (X:=X) (X1:=X1) (cenv:=compEnvC scope (eo env scope.names []) H2.objs.size env) (ρ:=ρ) (ρb:=lE scope ρ) (outs:=[]) (acc:=[]) ro (hq _ _ _) hden (hturn _ _ _)
   (hbody X1 _ _ (.inr (.inr (.inl rfl))) dDC (.inr (.inr (.inr rfl))) fun x k a e=>⟨(hcI x k a e).2,by refine bK (Rc.cel x k) fun a' v e' _ x' _=>?_;rw [e] at e';(have q_:=aq e';clear e';subst q_);exact x'⟩) wk hX hX1 (.inr (.inl rfl)) (.inr (.inr (.inl rfl))) (.inr (.inr (.inr rfl))) nI hcI dIC dDC dID ?_ ?_ ?_ ?_ (by simpa using hr) sta (Pc.wide fun _ q=>q.elim) Hd Rc hDa .nil hf ?_
  ·rw [List.all_eq_true];intro x hx;refine bl (S.tgt x (hts x hx)) fun h1 h2=>?_;have:(relabel scope env).names.lookup x=some .local:=lookup_relabel_local h1;unfold dJ;refine aa (show (compEnvC scope (eo env scope.names []) H2.objs.size env).scope.names.lookup x=some .local from this ..) (aa (tj h2 ..) ?_);rfl
  ·intro x hx;exact lookup_relabel_local (S.tgt x (hts x hx)).1
  ·intro x hx;refine aa (gS ..) ?_
   split
   ·rename_i q;exact (S.loc x q).elim (fun z=>hρ x z hx) fun z=>Option.eq_none_iff_forall_ne_some.mpr fun d e=>(R.noG x d e).2 z
   ·rfl
  ·intro x hx;exact aa (gS ..) (aa (if_pos (S.tgt x (hts x hx)).1 ..) rfl)
  ·intro s' μ2 acc' n' P' H' R' hD' hacc';refine hQ _ _ _ ⟨μ2,acc',n',_,P'.narrow fun a q=>?_,fun a x=>⟨.inl x,fun z=>(by have:=H.here a (.inr x);rw [z,nI] at this;exact aM this)⟩,fun a x=>hX1 a x.1,⟨.inr (.inr (.inr rfl)),fun z=>dIC z.symm⟩,⟨.inr (.inr (.inl rfl)),fun z=>dID z.symm⟩,dDC,nC,nD,H',hD',hacc',?_⟩
   ·rcases q with rfl | rfl
    ·exact nD
    ·exact nC
   ·refine aB (R'.ns) fun m hm _=>?_;exact ⟨m,hm⟩
 exact hstart loop fun Q hq E=>wk.W.self 0 _ _ _ sta hq
end
section
variable {prog:Program}{w:World}{K:Frag}{base:Heap}{c:d8}{X X1:Addr->Prop}{μ μ':Mu}{h h':Heap}{s s0 s':Shared}{Z Z' Z'' Z1:ag}{ρ ρb ρ':aL}{env cenv:Env}{A:Around}{E:Value->Shared->Prop}{d e da:V}
noncomputable def fQ (o:Bool) (r:List V) (Z':ag):V×ag:=if o then (.own Z'.length,Z'++[.lst r]) else (.lst r,Z')
theorem qA {r:List V}{D C:Addr}(H:aS prog w X μ s.heap base Z) (o:Bool) (q:fS prog w base X μ s r Z' D C s'):∃ μ3,Stp No μ μ3 s s'/\aS prog w (fun a=>X a\/a=C) μ3 s'.heap base (fQ o r Z').2/\bh (fun a=>X a\/a=C) μ3 s'.heap (fQ o r Z').1 (.ref D):=by
 obtain ⟨μ2,acc,n,X2,P,hX,hX2,xC,xD,dDC,nC,nD,He,hD,hr,_⟩:=q;have sub:∀ a,(X a\/a=C)->X2 a:=fun a z=>z.elim (hX a) fun z=>z▸xC;have nXD:¬X D:=fun x=>by have:=H.here D (.inr x);rw [nD] at this;exact aM this
 induction o using Oz with
 | false =>
  refine ⟨μ2,P,He.drop sub,.lst (fun b=>?_) hD (hr.drop sub)⟩;rcases b with b | b | b
  ·exact He.off D b xD
  ·exact nXD b
  ·exact dDC b
 | true =>
  have bs:∀ b,dY (fun a=>X a\/a=C) (μ2++[(D,true)]) b->dY X2 μ2 b:=iq xD sub;refine ⟨μ2++[(D,true)],⟨P.same,P.keep,P.there,P.ext.snoc nD⟩,He.live xD (fun b z=>⟨sub b z,fun y=>?_⟩) ⟨acc,n,hD,hr.mono' (fun ζ ζ ζ e=>e) (fun k a b e=>⟨b,ia D k a b e⟩) fun a z=>.inl (bs a z)⟩,.own (b:=true) ?_⟩
  ·subst y;rcases z with z | z
   ·exact nXD z
   ·exact dDC z
  ·refine aa (aH (He.len ..)) ?_;simp
theorem nO {r:List V}{D C:Addr}(H:aS prog w X μ s.heap base Z) (o:Bool) (q:fS prog w base X μ s r Z' D C s') {h'':Heap}(hs:Heap.SameBut C s'.heap h''):Res prog w base X μ s (fQ o r Z').2 (fQ o r Z').1 (.ref D) { s' with heap:=h'' }:=by
 refine bH (qA H o q) fun μ3 P Hf rc=>?_;obtain ⟨μ2,acc,n,X2,_,hX,hX2,xC,xD,dDC,nC,nD,_⟩:=q;have keep:∀ a o,a≠C->s'.heap.get? a=some o->h''.get? a=some o:=fun a o ne e=>(hs.2 a ne).trans e;have neX:∀ a,X a->a≠C:=fun a x z=>by have:=H.here a (.inr x);rw [z,nC] at this;exact aM this
 refine ⟨μ3,⟨by obtain ⟨⟨h,t,e⟩,_⟩:=P;exact ⟨h'',t,by exact aa (e ..) rfl⟩,fun a o nl ζ e=>keep a o (fun z=>by rw [z,nC] at e;exact aw e) (P.keep a o nl (fun q=>q) e),fun a z=>?_,P.ext⟩,?_,rc.mono' (fun a o nb e=>keep a o (fun z=>nb (.inr (.inr z))) e) (fun ζ ζ b e=>⟨b,e⟩) fun a z=>.inl (z.imp id .inl)⟩
 ·refine be (ax.mp (P.there a z)) fun o e=>?_;show (h''.get? a).isSome=true;refine aa (keep a o (fun y=>by rw [y,nC] at z;exact aM z) e ..) ?_;rfl
 ·exact Hf.grow2 (fun a x=>.inl x) (fun a o e nx=>keep a o (fun z=>nx (.inr z)) e) fun a x=>by
   refine be (ax.mp (Hf.here a (.inr (.inl x)))) fun o e=>?_;refine aa (keep a o (neX a x) e ..) ?_;rfl
theorem nQ {f:V->ag->Option (List V×ag)}(hf:∀ v Z a Z',f v Z=some (a,Z')->a.length<=1):∀ {l:List V}{Z:ag}{r:List V},cz f l Z=some (r,Z')->r.length<=l.length
 | [],_,_,h=>by simp only [cz] at h;refine dr h ?_;exact aU _
 | v::l,_,_,h=>by
  refine dm (nR h) fun ra Z1 rb h1 h2 Q0=>?_;subst Q0;have:=hf _ _ _ _ h1;have:=nQ hf h2;simp only [ai,aR];exact Hs ‹_› this
theorem d5 {e:Expr}{x:Value}(h:dQ e=true):foldedSetIterable e env x=pure x:=by
 induction e using Expr.casesOn<;>first | rfl | exact aM h
theorem kt {scope:Scope}{ts:List Str}{sc:Scope}{G:List (Str×V)}(S:kT G sc scope ts):∀ x∈scope.names,x.2=.local->scope.names.lookup x.1=some .local:=fun x hx e=>by
 exact aa (S.same x hx ..) (aa (e ..) rfl)
theorem uz {l:List V}(h:items d=some l):l.length<=2*lim:=by
 have:lim=1000000:=rfl;unfold items at h;split at h
 ·refine bR h fun _hc h=>?_;refine bp h ?_;exact y5 _hc
 ·refine bR h fun _hc h=>?_;refine bp h ?_;exact y5 _hc
 ·refine bR h fun _hc h=>?_;refine bp h ?_;simp;exact An _hc
 ·exact aw h
theorem mi {elt t it:Expr}{ifs:List Expr}{scope:Scope}{pos:Pos}{n k m:Nat}{l rr:List V}{Z1 Z2:ag}{use:Option (Value->Sem Unit)}{Q:Value->Shared->Prop}
    (hE:m7 prog w base c k n) (hI:tY prog w base c k n) (ro:bY A k) (H:aS prog w X μ s.heap base Z) (R:bE c.G X μ s.heap env ρ) (hw:ws c.G (m+1) env.scope (.ListComp elt [⟨t,it,ifs,0⟩] scope pos)=true)
    (h1:ev c n ρ Z it=some (d,Z1)) (h2:items d=some l)
    (h3:cz (fun x Z=>(b6 t x ρ).bind fun ρ'=>(tI c n ρ' Z ifs).bind fun (b,Z)=>if b then (ev c n ρ' Z elt).map fun (y,Z)=>([y],Z) else some ([],Z)) l Z1=some (rr,Z2))
    (hQ:∀ μ1 sa D C s',Stp No μ μ1 s sa->aS prog w X μ1 sa.heap base Z1->fS prog w base X μ1 sa rr Z2 D C s'->compPost (model prog w) A E use Q (.ref D) C (.ok .next) s') :
    wpAny (model prog w) A (comprehension (.ListComp elt [⟨t,it,ifs,0⟩] scope pos) scope env (firstIterPos [⟨t,it,ifs,0⟩] pos) (newList []) false (eval it env) use) Q E s:=by
  have hl':lim=1000000:=rfl;have hsl:=sizeLine_eq;have w5:=(bF hw).2;have w4:=(bF (bF hw).1).2;have w3:=(bF (bF (bF hw).1).1).2;have w2:=(bF (bF (bF (bF hw).1).1).1).2;have w1:=(bF (bF (bF (bF (bF hw).1).1).1).1).2;have S:=pL w3;have hclos:=(mf (X1:=fun a=>X a\/a=s.heap.objs.size) (h':=s.heap.push { cls:=.type "dict",data:=.dict #[] }) R S (bP _) (fun ζ x=>.inl x) (.inr rfl) (fun a x=>x.elim .inl fun z=>.inr (by subst z;exact bP _)) (Heap.Ns.new ..) (fun ζ ζ e=>ak _ e)).1;refine wpAny_comprehension_free (g:=⟨t,it,ifs,0⟩) (gs:=[]) rfl (fun x=>d5 w2) hclos S.kind (kt S) (az (hE E h1 w1 ro R H) (fun u sa hu=>?_) fun ζ ζ x=>x);refine Res.el (hu) fun μ1 pa Hd ra=>?_;clear hu;have R1:=R.stp pa H.off;exact nP (t:=t) (PP:=fun acc C=>compPost (model prog w) A E use Q acc C) (body:=fun D cenv=>qE ifs elt (.ref D) cenv) (p:=it.pos) ro Hd R1 S ra h2 (fun x hx=>hx) (fun x hx hn=>absurd hx hn)
    (by have:=nQ (fun v Z a Z' hv=>by
          refine dv hv fun ρ' ζ q=>?_;clear hv;refine bA q fun b Z3 ζ q=>?_
          induction b using Oz with
          | true=>refine aB (Option.map_eq_some_iff.mp (show Option.map _ _=_ from q)) fun y ζ q=>?_;refine eU q ?_;simp
          | false=>refine dr (show some _=some _ from q) ?_;simp) h3
        have:=uz h2;exact Hr hl' hsl ‹_› this) h3
    (fun ζ ζ ζ=>rfl) (fun h=>wpAny_noted h) (fun I D cenv=>DI elt t it ifs scope pos (.ref I) (.ref D) cenv)
    (fun hl hi=>codeAny_compStart_list hl (hi _ hl _)) (fun X1 D C xD dDC xC hc=>xR hE hI ro (m:=m) w5 w4 xD dDC fun x k a e=>(hc x k a e).1) fun D C s' q=>hQ μ1 sa D C s' pa Hd q
theorem n9 {elt t iter t2 it2:Expr}{scope:Scope}{pos:Pos}{it acc:Value}{R:Result->Shared->Prop}
  (h0:codeAny (model prog w) A (.compLoop (.ListComp elt [⟨t,iter,[],0⟩,⟨t2,it2,[],0⟩] scope pos) 1 it acc env) R s)
  (h:wpAny (model prog w) A (pyIter it) (fun it' s'=>codeAny (model prog w) A (.compLoop (.ListComp elt [⟨t,iter,[],0⟩,⟨t2,it2,[],0⟩] scope pos) 1 it' acc env) R s') (notedBy (model prog w) A env fun x s'=>R (.error x) s') s) :
  codeAny (model prog w) A (.compStart (.ListComp elt [⟨t,iter,[],0⟩,⟨t2,it2,[],0⟩] scope pos) 1 it acc env) R s:=by
 refine codeAny_of_tree ?_;show wpAny _ _ ((compStart (.ListComp elt [⟨t,iter,[],0⟩,⟨t2,it2,[],0⟩] scope pos) 1 it acc env).onRaise (fun x=>do noteFrame x env;standAt theWindowsPlace)) _ _ s;refine wpAny_notedAt ?_;unfold compStart;show wpAny _ _ (ask >>= _) _ _ s;refine ab (wpAny_askSetting (wpAny_ite ?_))
 split
 ·first
   | exact ab (av (av (And.intro rfl h0)))
   | exact av (And.intro rfl h0)
 ·first
   | exact ab (wpAny_rule (ab (wpAny_standAt (ab (az h (fun it' s' h'=>av (And.intro rfl h')) fun ζ ζ x=>x)))))
   | (refine ab (wpAny_rule ?_);show wpAny _ _ (standAt it2.pos >>= _) _ _ s;exact ab (wpAny_standAt (ab (az h (fun it' s' h'=>av (And.intro rfl h')) fun ζ ζ x=>x))))
theorem xQ {n k m : Nat} {elt iter it2 : Expr} {x1 x2 : Str} {p1 p2 : Pos} {scope : Scope} {pos : Pos} {D : Addr} (hE : m7 prog w base c k n) (ro : bY A k) (hw2 : ws c.G m cenv.scope it2 = true) (hp2 : dQ it2 = true) (hw : ws c.G m cenv.scope elt = true)
  (xD : X1 D) (dDC : D ≠ cenv.locals) (xC : X1 cenv.locals)
  (hcel : ∀ x, (cenv.kindOf x = some .cell \/ cenv.kindOf x = some .free) -> ∀ a, cenv.cells.lookup x = some a -> a ≠ D /\ X1 a) (hk2 : cenv.kindOf x2 = some .local) (hg2 : yh c.G x2) (hn2 : lk x2 ρb = none) :
  mL prog w base c.G X1 D A cenv ρb (fun ρ' Z => (ev c n ρ' Z it2).bind fun (v2, Z) => (items v2).bind fun l2 => cz (fun y Z => (ev c n (st x2 y ρ') Z elt).map fun (z, Z) => ([z], Z)) l2 Z)
   (mt (.ListComp elt [⟨.Name x1 p1, iter, [], 0⟩, ⟨.Name x2 p2, it2, [], 0⟩] scope pos) it2 (.ref D) cenv) := by
 intro ρa Z1 Z2 ra outs acc na μ1 sa E hg hsub R R0 H hD hacc hsz;refine bA hg fun d2 Z3 h1 h2 => ?_; clear hg;refine dv h2 fun l2 h2 h3 => ?_;unfold mt;refine ab (az (hE E h1 hw2 ro R H) (fun u sb hu => ?_) fun ζ ζ x => x);refine Res.el (hu) fun μ2 pb He rb => ?_; clear hu;refine ab (wpAny_standAt (ab (wpAny_of_eq (d5 hp2) ?_)));refine ab (wpAny_holding (oF ro He rb h2 fun o fp P St wk hll st => ?_));refine ab (wpAny_onRaise (wpAny_run ?_));have D2 : IsL sb.heap D acc.toArray na := pb.keep _ _ (fun l => H.off _ l xD) (fun q => q) hD;have hl : ∀ a, X1 a -> a ≠ sb.heap.objs.size := fun a x z => He.fresh (.inr (z ▸ x));have nI : sb.heap.get? sb.heap.objs.size = none := bP _;refine aB (wk.cls 0 _ st) fun oI hoI ζ => ?_;have keep : ∀ a x, sb.heap.get? a = some x -> (sb.heap.push o).get? a = some x := fun ζ ζ e => ak _ e
 let X2 : Addr -> Prop := fun a => X1 a \/ a = sb.heap.objs.size
 have hX2 : ∀ a, X2 a -> X1 a \/ sb.heap.get? a = none := fun a x => x.elim .inl fun z => .inr (by subst z; exact nI);have Hf : aS prog w X2 μ2 (sb.heap.push o) base Z3 := He.grow (fun a x e ζ => keep a x e) (bX keep) fun a x => x.elim .inl fun z => .inr (by subst z; exact ⟨nI, by refine aa (hoI ..) ?_; rfl⟩);have R2 : bE c.G X1 μ2 sb.heap cenv ρa := R.stp pb H.off;have Rg : bE c.G X2 μ2 (sb.heap.push o) cenv ρa := by
  exact R2.imp (fun ζ ζ r => r.mono (fun a x ζ e => keep a x e) (fc.refl _ _) hX2) (.inl R2.bar) (fun o e => keep _ o e) fun ζ ζ ζ ζ ζ h h3 => ⟨h.keeps keep, .inl h3⟩
 have same : (fun a => X2 a /\ a ≠ sb.heap.objs.size) = X1 := by
  funext a
  refine propext ⟨fun z => z.1.resolve_right z.2, fun z => ⟨.inl z, hl a z⟩⟩
 have lkx : ∀ x, lk x (ρa.filter fun q => q.1 != x2) = if (x != x2) = true then lk x ρa else none := fun x => jT (p := fun z => z != x2)
 let g : aL -> ag -> Option (List V × ag) := fun ρ Z => (ev c n ρ Z elt).map fun (z, Z) => ([z], Z)
 have pc : Stp (fun a => a = D \/ a = cenv.locals) μ2 μ2 sb { sb with heap := sb.heap.push o } := Stp.of_keeps (tk := sb.toks) keep;have loop : codeAny (model prog w) A (.compLoop (.ListComp elt [⟨.Name x1 p1, iter, [], 0⟩, ⟨.Name x2 p2, it2, [], 0⟩] scope pos) 1 (.ref sb.heap.objs.size) (.ref D) cenv)
   (fun r s' => match r with
    | .ok _ => ∃ μ2 acc' n', Stp (fun a => a = D \/ a = cenv.locals) μ1 μ2 sa s' /\ aS prog w X1 μ2 s'.heap base Z2 /\ bE c.G X1 μ2 s'.heap cenv ρb /\ IsL s'.heap D acc'.toArray n' /\ aG X1 μ2 s'.heap (outs ++ ra) acc'
    | .error _ => False) { sb with heap := sb.heap.push o } := by
  refine kG (s0 := sb) (s := { sb with heap := sb.heap.push o }) (t := .Name x2 p2) (X := X1) (X1 := X2) (cenv := cenv) (ρ := ρa) (ρb := ρa.filter fun q => q.1 != x2) (outs := outs) (acc := acc) (g := g) (r := ra) (Z' := Z2) (Z := Z3)
   ro rfl (fun h => wpAny_noted h) (A9 elt (.Name x1 p1) iter (.Name x2 p2) it2 scope pos _ _ cenv) (tK hE ro hw (.inl xD) dDC fun x k a e => (hcel x k a e).1) wk (fun ζ x => .inl x) hX2 (.inr rfl) (.inl xD) (.inl xC) nI
   (fun x k a e => ⟨hl a (hcel x k a e).2, (hcel x k a e).1⟩) (fun z => hl _ xC z.symm) dDC (fun z => hl _ xD z.symm) ?_ ?_ ?_ ?_ hsz st pc Hf (Rg.weak fun x d e => ?_) (keep _ _ D2) ?_ (show cz (fun v Z => (b6 (.Name x2 p2) v ρa).bind fun ρa => g ρa Z) l2 Z3 = some (ra, Z2) from h3) ?_
  ·simp only [fe, fT, List.all_cons, List.all_nil, Bool.and_true, dJ];refine aa (show cenv.scope.names.lookup x2 = some .local from hk2 ..) (aa (tj hg2 ..) ?_); rfl
  ·intro x hx;simp only [fe, fT, an] at hx;subst hx; exact hk2
  ·intro x hx;simp only [fe, fT, an] at hx;exact aa (lkx ..) (aa (if_pos (by simpa using hx) ..) rfl)
  ·intro x hx;simp only [fe, fT, an] at hx;subst hx;exact aa (lkx ..) (aa (if_neg (by simp) ..) rfl)
  ·rw [lkx] at e;refine bR e fun _hc e => ?_;exact e
  ·exact (hacc.stp pb).mono (fun a x ζ e => keep a x e) (fc.refl _ _) hX2
  ·intro s' μ3 acc' n' P' H' R' hD' hacc';rw [same] at H' R' hacc';refine ⟨μ3, acc', n', (pb.wide fun ζ q => q.elim).trans P', H', R'.weak fun x d e => ?_, hD', hacc'⟩;have hx : x ≠ x2 := fun z => by rw [z, hn2] at e; exact aw e
   refine aa (lkx ..) (aa (if_pos (by simpa using hx) ..) ?_);exact hsub x d e
 refine codeAny_mono (n9 (R := fun r s' => match r with
    | .ok _ => ∃ μ2 acc' n', Stp (fun a => a = D \/ a = cenv.locals) μ1 μ2 sa s' /\ aS prog w X1 μ2 s'.heap base Z2 /\ bE c.G X1 μ2 s'.heap cenv ρb /\ IsL s'.heap D acc'.toArray n' /\ aG X1 μ2 s'.heap (outs ++ ra) acc'
    | .error _ => False) loop (wk.W.self 0 _ _ _ st loop)) fun r s' hr => ?_
 induction r using Except.casesOn with
 | ok f => exact av hr
 | error e => exact hr.elim
theorem mh {elt it it2:Expr}{x1 x2:Str}{p1 p2:Pos}{scope:Scope}{pos:Pos}{n k m:Nat}{l rr:List V}{Z1 Z2:ag}{use:Option (Value->Sem Unit)}{Q:Value->Shared->Prop}
  (hE:m7 prog w base c k n) (ro:bY A k) (H:aS prog w X μ s.heap base Z) (R:bE c.G X μ s.heap env ρ) (hw:ws c.G (m+1) env.scope (.ListComp elt [⟨.Name x1 p1,it,[],0⟩,⟨.Name x2 p2,it2,[],0⟩] scope pos)=true)
  (h1:ev c n ρ Z it=some (d,Z1)) (h2:items d=some l) (hn:lk x2 ρ=none) (hne:x1≠x2)
  (h3:cz (fun x Z=>(ev c n (st x1 x ρ) Z it2).bind fun (v2,Z)=>(items v2).bind fun l2=>cz (fun y Z=>(ev c n (st x2 y (st x1 x ρ)) Z elt).map fun (z,Z)=>([z],Z)) l2 Z) l Z1=some (rr,Z2)) (hr:rr.length<=lim)
  (hQ:∀ μ1 sa D C s',Stp No μ μ1 s sa->aS prog w X μ1 sa.heap base Z1->fS prog w base X μ1 sa rr Z2 D C s'->compPost (model prog w) A E use Q (.ref D) C (.ok .next) s') :
  wpAny (model prog w) A (comprehension (.ListComp elt [⟨.Name x1 p1,it,[],0⟩,⟨.Name x2 p2,it2,[],0⟩] scope pos) scope env (firstIterPos [⟨.Name x1 p1,it,[],0⟩,⟨.Name x2 p2,it2,[],0⟩] pos) (newList []) false (eval it env) use) Q E s:=by
 have hl':lim=1000000:=rfl;have hsl:=sizeLine_eq;have w5:=(bF hw).2;have w4:=(bF (bF hw).1).2;have w3:=(bF (bF (bF hw).1).1).2;have w2':=(bF (bF (bF (bF hw).1).1).1).2;have w2:=(bF (bF (bF (bF (bF hw).1).1).1).1).2;have w1:=(bF (bF (bF (bF (bF (bF hw).1).1).1).1).1).2;have S:=pL w3;have hclos:=(mf (X1:=fun a=>X a\/a=s.heap.objs.size) (h':=s.heap.push { cls:=.type "dict",data:=.dict #[] }) R S (bP _) (fun ζ x=>.inl x) (.inr rfl) (fun a x=>x.elim .inl fun z=>.inr (by subst z;exact bP _)) (Heap.Ns.new ..) (fun ζ ζ e=>ak _ e)).1;refine wpAny_comprehension_free (g:=⟨.Name x1 p1,it,[],0⟩) (gs:=[⟨.Name x2 p2,it2,[],0⟩]) rfl (fun x=>d5 w2) hclos S.kind (kt S) (az (hE E h1 w1 ro R H) (fun u sa hu=>?_) fun ζ ζ x=>x);refine Res.el (hu) fun μ1 pa Hd ra=>?_;clear hu;have R1:=R.stp pa H.off;have lx2:=S.tgt x2 (by simp)
 let g:aL->ag->Option (List V×ag):=fun ρ' Z=>(ev c n ρ' Z it2).bind fun (v2,Z)=>(items v2).bind fun l2=>cz (fun y Z=>(ev c n (st x2 y ρ') Z elt).map fun (z,Z)=>([z],Z)) l2 Z
 refine nP (t:=.Name x1 p1) (g:=g) (PP:=fun acc C=>compPost (model prog w) A E use Q acc C) (body:=fun D cenv=>mt (.ListComp elt [⟨.Name x1 p1,it,[],0⟩,⟨.Name x2 p2,it2,[],0⟩] scope pos) it2 (.ref D) cenv) (p:=it.pos) ro Hd R1 S ra h2
  (fun x hx=>by simp only [fe,fT,an] at hx;subst hx;simp) (fun x hx hn'=>by
   simp only [fe,fT,an] at hn';simp only [List.mem_cons,List.not_mem_nil,or_false] at hx;rcases hx with rfl | rfl
   ·exact absurd rfl hn'
   ·exact hn) (Er hr hl' hsl) (show cz (fun v Z=>(b6 (.Name x1 p1) v ρ).bind fun ρa=>g ρa Z) l Z1=some (rr,Z2) from h3)
  (fun ζ ζ ζ=>rfl) (fun h=>wpAny_noted h) (fun I D cenv=>A8 elt (.Name x1 p1) it (.Name x2 p2) it2 scope pos (.ref I) (.ref D) cenv)
  (fun hl hi=>codeAny_compStart_list hl (hi _ hl _)) (fun X1 D C xD dDC xC hc=>xQ hE ro (m:=m) w4 w2' w5 xD dDC xC (fun x k a e=>hc x k a e) (lookup_relabel_local lx2.1) lx2.2 (aa (gS ..) (aa (if_pos lx2.1 ..) (by rfl)))) fun D C s' q=>hQ μ1 sa D C s' pa Hd q
theorem mn {T:String}{name:Str}{id:String}{b:Builtin}{self:Value}{rest:List Value}{Q:Value->Shared->Prop}(h:Slot T name id) (hT:s.TypeIs self T) (hb:entryFor table id=some b) (ha:argsOk id ⟨self::rest,[]⟩)
  (hc:wpAny (model prog w) A.in1 (b ⟨self::rest,[]⟩) (fun cL s'=>match cL with
    | .done f=>(match (Except.ok f:Result) with | .ok (.ret v)=>Q v s' | .ok _=>False | .error e=>E e s')
    | .again c'=>c'.quiet=true/\codeAny (model prog w) A c' (fun r s'=>match r with | .ok (.ret v)=>Q v s' | .ok _=>False | .error e=>E e s') s') E s) :
  wpAny (model prog w) A (call (.builtin id) (self::rest)) Q E s :=
 wpAny_call (codeAny_call_builtin h.plain hb (h.check _ _ _ _ _ _ _ _ hT ha hc))
theorem rT {I S:Addr}{fp:List Addr}{n:Nat}{P:Nat->Value->Prop}{St:Nat->Heap->Prop}{res:Value}{R:Result->Shared->Prop}(W:Walks prog w A.in1 I fp [I] n P St) (hSf:S∉fp) (hSI:S≠I) :
  ∀ (k i:Nat) (s:Shared) (acc:List Value) (c:Nat),n - i=k->i<=n->St i s.heap->IsL s.heap S acc.toArray c->acc.length+k<=sizeLine ->
  (∀ h' tk (new:List Value) c',new.length=k->(∀ (j:Nat) v,new[j]?=some v->P (i+j) v)->(∀ b o,b≠S->b≠I->s.heap.get? b=some o->h'.get? b=some o)->IsL h' S (acc++new).toArray c'->R (.ok (.ret res)) { s with heap:=h',toks:=tk }) ->
  codeAny (model prog w) A (.builtin "list.extend.loop" ⟨[.ref S,.ref I,res],[]⟩) R s:=by
 intro k
 induction k with
 | zero =>
  intro i s acc c hk hi hst hS hsz hR;obtain rfl:i=n:=Hq hk hi;refine codeAny_builtin F.entry_extend_loop ?_;refine aa (Around.under_plainId F.plain_extend_loop _ ..) ?_;show wpAny _ A.in1 (pyNext (.ref I) >>= _) _ _ s;refine ab (W.done s _ _ hst fun h' tk hk'=>?_);exact av (hR h' tk [] c rfl (fun j v e=>by simp at e) (fun b o ζ hb e=>hk' b o (fun z=>hb (an.mp z)) e) (by exact aa (List.append_nil ..) (hk' _ _ (fun z=>hSI (an.mp z)) hS)))
 | succ k ih =>
  intro i s acc c hk hi hst hS hsz hR;have hlt:i<n:=Hp hk;refine codeAny_builtin F.entry_extend_loop ?_;refine aa (Around.under_plainId F.plain_extend_loop _ ..) ?_;show wpAny _ A.in1 (pyNext (.ref I) >>= _) _ _ s;refine ab (W.item i s _ _ hlt hst fun v h' tk hP hst' hk'=>?_);have hS':IsL h' S acc.toArray c:=hk' _ _ (fun z=>hSI (an.mp z)) hS;show wpAny _ A.in1 (updateSeq S (·.push v) >>= _) _ _ _;refine ab ?_;refine wpAny_updateSeq hS' rfl (av ⟨plainId_quiet F.plain_extend_loop _,ih (i+1) _ (acc++[v]) (Ho hk) hlt (W.frame _ h' _ hst' fun b hb o e=>(Heap.get?_update_other _ _ (fun z:S=b=>hSf (z▸hb))).trans e)
   (c:=if (acc.toArray.push v).size==acc.toArray.size then c else c+1) ?_ (by refine aa (ai ..) (aa (aE ..) ?_);exact Bu hsz) fun h'' tk' new c' hl hn hk'' hS''=>?_⟩) (by refine aa (aC ..) ?_;exact Hn hsz) (by show (acc.toArray.push v).size<=sizeLine+1;rw [Array.size_push,aC];exact Hm hsz)
  ·have:=IsL.update hS' (·.push v);rw [show (acc++[v]).toArray=acc.toArray.push v by simp];exact this
  ·refine hR h'' tk' (v::new) c' (by rw [aR,hl]) (fun j u e=>?_) (fun b o hb hb' e=>hk'' b o hb hb' ((Heap.get?_update_other _ _ (Ne.symm hb)).trans (hk' b o (fun z=>hb' (an.mp z)) e))) (by rw [show acc++v::new=acc++[v]++new by simp];exact hS'')
   induction j using OB with
   | zero=>simp at e;subst e;exact hP
   | succ j=>have:=hn j u (by simpa using e);refine aa (show i+(j+1)=i+1+j by exact Ep ..) ?_;exact this
theorem kH {S r:Addr}{a b:Int}{t u v:Tok}{acc:List Value}{c0:Nat}{Q:Value->Shared->Prop}(hh:A.handled=none) (hr:IsRange s.heap r a b 1 t u v) (ha:a.natAbs<=lim) (hb:b.natAbs<=lim) (hS:IsL s.heap S acc.toArray c0) (hsz:acc.length<=lim)
  (hQ:∀ h' tk (new:List Value) c',new.length=(b - a).toNat->(∀ (j:Nat) v,new[j]?=some v->∃ t,v=.int (a+(j:Int)) t)->(∀ x o,x≠S->s.heap.get? x=some o->h'.get? x=some o)->IsL h' S (acc++new).toArray c'->Q .none { s with heap:=h',toks:=tk }) :
  wpAny (model prog w) A (call (.builtin "list.extend") [.ref S,.ref r]) Q E s:=by
 have hl':lim=1000000:=rfl;have hsl:=sizeLine_eq;have hn:=eQ a b;have hSr:S≠r:=fun e=>by
  have hS':=hS;have hr':=hr;rw [e] at hS';have:=hS'.symm.trans hr';simp at this
 have hSlt:S<s.heap.objs.size:=Heap.lt_size hS;have hSI:S≠s.heap.objs.size:=Nat.ne_of_lt hSlt;have hSf:S∉[s.heap.objs.size]:=fun hm=>hSI (an.mp hm);have W:=Walks.range (prog:=prog) (w:=w) (A:=A.in1) hh s.heap.objs.size a 1 (b - a).toNat;refine mn F.slot_list_extend ⟨_,hS,rfl⟩ F.entry_list_extend (F.args_list_extend_2 _ _) ?_;show wpAny _ A.in1 (Builtin.List.listExtendWith (.ref S) (.ref r) .none) _ _ s;have key:∀ (h:Heap) (ca tk:Nat),IsRangeIter h s.heap.objs.size (a+((0:Nat):Int)*1) (((b - a).toNat:Int) - ((0:Nat):Int)) 1->(∀ b o,b≠S->s.heap.get? b=some o->h.get? b=some o)->IsL h S acc.toArray ca ->
   codeAny (model prog w) A (.builtin "list.extend.loop" ⟨[.ref S,.ref s.heap.objs.size,.none],[]⟩) (fun r s'=>match r with | .ok (.ret v)=>Q v s' | .ok _=>False | .error e=>E e s') { s with heap:=h,toks:=tk }:=by
  intro h ca tk hit hk hS1;refine rT (s:={ s with heap:=h,toks:=tk }) W hSf hSI (b - a).toNat 0 acc ca Hl (Nat.zero_le _) hit hS1 (Hj ha hb hsz hl' hsl) fun h' tk' new c' hl hn' hk' hS'=>?_;refine hQ h' tk' new c' hl (fun j v e=>?_) (fun x o hx e=>hk' x o hx (Nat.ne_of_lt (Heap.lt_size e)) (hk x o hx e)) hS';refine be (hn' j v e) fun t Q0=>?_;subst Q0;exact ⟨t,by congr 1;exact aa (Nat.zero_add ..) (aa (Int.mul_one ..) rfl)⟩
 unfold Builtin.List.listExtendWith;refine ab (wpAny_typeOf (T:= "range") ⟨_,hr,rfl⟩ ?_);have h1:Builtin.List.listSameRef (.ref S) (.ref r)=false:=by simp [Builtin.List.listSameRef,hSr]
 have h2:(Value.type "range" ==Value.type "list")=false:=by decide
 have h3:(Value.type "range" ==Value.type "tuple")=false:=by decide
 simp only [h1,h2,h3,Bool.or_false,Bool.false_eq_true,if_false];refine ab (wpAny_pyIter_range hr (iK ha hb) ?_);refine ab (wpAny_holding (wpAny_hint_range (n:=(b - a).toNat) (ak _ hr) hn (by first | exact af (jt ⟨hc.1,hc.2⟩) (by decide) | exact aJ (jt ⟨hc.1,hc.2⟩) (by decide) | exact af (jt ⟨ha,hb⟩) (by decide) | exact aJ (jt ⟨ha,hb⟩) (by decide) | lia) ?_));have hit1:IsRangeIter (s.heap.push { cls:=.type "range_iterator",data:=.fields #[rawInt a,rawInt (Builtin.Range.rangeSize a b 1),rawInt 1] }) s.heap.objs.size (a+((0:Nat):Int)*1) (((b - a).toNat:Int) - ((0:Nat):Int)) 1:=by
  show IsRangeIter _ _ _ _ _;refine aa (hn ..) ?_;simpa using aW _ rfl
 have hS1:IsL (s.heap.push { cls:=.type "range_iterator",data:=.fields #[rawInt a,rawInt (Builtin.Range.rangeSize a b 1),rawInt 1] }) S acc.toArray c0:=ak _ hS;refine wpAny_ite_split (fun ζ=>?_) (fun ζ=>av ⟨plainId_quiet F.plain_extend_loop _,key _ c0 _ hit1 (fun b o ζ e=>ak _ e) hS1⟩);refine ab (wpAny_rule ?_);refine ab ?_;show wpAny _ _ (updateSeq S (·.push .none) >>= fun ζ=>updateSeq S (·.pop)) _ _ _;refine ab (wpAny_updateSeq hS1 rfl ?_ (by exact aa (aC ..) (Er hsz hl' hsl)) (by show (acc.toArray.push _).size<=sizeLine+1;refine aa (Array.size_push ..) (aa (aC ..) ?_);exact G9 hsz hl' hsl));have hS2:=IsL.update hS1 (·.push Value.none);refine wpAny_updateSeq (hz:=by refine aa (Array.size_push ..) (aa (aC ..) ?_);exact G8 hsz hl' hsl) (_hz':=by refine aa (Array.size_pop ..) (aa (Array.size_push ..) (aa (aC ..) ?_));exact G7 hsz hl' hsl) hS2 rfl ?_;have hS3:=IsL.update hS2 (·.pop);refine av ⟨plainId_quiet F.plain_extend_loop _,key _ _ _ ?_ (fun b o hb e=>?_) (by have:=hS3;rw [Array.pop_push] at this;exact this)⟩
 ·exact (Heap.get?_update_other _ _ hSI).trans ((Heap.get?_update_other _ _ hSI).trans hit1)
 ·exact (Heap.get?_update_other _ _ (Ne.symm hb)).trans ((Heap.get?_update_other _ _ (Ne.symm hb)).trans (ak _ e))
theorem Res.turned {k tk:Nat}{a:Addr}{l:List V}{vs:List Value}{n:Nat}{v:Value}{hJ:Heap}(H:aS prog w X μ s.heap base Z) (ha:μ[k]?=some (a,true)) (hk:∀ b o,b≠a->s.heap.get? b=some o->hJ.get? b=some o) (hl:IsL hJ a vs.toArray n)
  (r:aG X μ hJ l vs) (rv:bh X μ hJ d v):Res prog w base X μ s (Z.set k (.lst l)) d v { s with heap:=hJ,toks:=tk }:=by
 have ht:(hJ.get? a).isSome=true:=by refine aa (hl ..) ?_;rfl
 have st:Stp No μ μ s { s with heap:=hJ,toks:=tk }:=⟨⟨_,_,rfl⟩,fun b o nl ζ e=>hk b o (by rintro rfl;exact nl (cE ha)) e,fun b z=>by
  by_cases q:b=a
  ·subst q;exact ht
  ·refine be (ax.mp z) fun o e=>?_;show (hJ.get? b).isSome=true;refine aa (hk b o q e ..) ?_;rfl,fc.refl _ _⟩
 refine ⟨μ,st,?_,rv⟩;have keep:∀ b o,b≠a->s.heap.get? b=some o->hJ.get? b=some o:=hk;refine ⟨by refine aa (aF ..) ?_;exact H.len,fun j c' e=>?_,H.inj,fun b o e=>?_,H.apart,fun b q=>st.there b (H.here b q),H.off⟩
 ·rw [List.getElem?_set] at e;by_cases q:k=j
  ·subst q;rw [if_pos rfl] at e;refine bR e fun _hc e=>?_;refine bp e ?_;exact .inr ⟨a,ha,vs,n,hl,r⟩
  ·rw [if_neg q] at e;refine (H.cell j c' e).imp id fun ⟨b,e1,r⟩=>⟨b,e1,?_⟩;have hb:b≠a:=fun z=>q (H.inj k j a ha (z▸e1));have mv:∀ a' o,¬dY X μ a'->s.heap.get? a'=some o->hJ.get? a'=some o:=fun a' o nb e=>keep a' o (by rintro rfl;exact nb (.inl (cE ha))) e
   induction c' using Cell.casesOn with
   | lst l=>refine bQ (r) fun vs n h1 h2=>?_;clear r;exact ⟨vs,n,keep _ _ hb h1,h2.mono mv (fc.refl _ _) fun ζ x=>.inl x⟩
   | inst C d=>refine aB (r) fun dx h1 h2=>?_;clear r;exact ⟨dx,keep _ _ hb h1,h2⟩
   | attrs fs=>refine bG (r) fun es n h1 h2 h3=>?_;clear r;exact ⟨es,n,keep _ _ hb h1,h2.mono mv (fc.refl _ _) (fun ζ x=>.inl x),h3⟩
   | sdct fs=>refine bH (r) fun kvs h1 h2 h3=>?_;clear r;exact ⟨kvs,h1.at fun o e=>keep _ o hb e,h2.mono mv (fc.refl _ _) (fun ζ x=>.inl x),h3⟩
   | idct n=>refine aB (r) fun kvs h1 h2=>?_;clear r;exact ⟨kvs,h1.at fun o e=>keep _ o hb e,h2⟩
   | dead=>trivial
 ·exact keep b o (by rintro rfl;have:=H.apart b (.inl (cE ha));rw [e] at this;exact gQ this) (H.stays b o e)
structure MV (m:Str) (id:String):Prop where
 slot:Slot "list" m id
 ty:typeOf (.builtin id)=pure (.type "method_descriptor")
noncomputable def Ea (m:Str):String:=if m=Str.ofString "pop" then "list.pop" else if m=Str.ofString "append" then "list.append" else "list.extend"
theorem tt:Ea (Str.ofString "pop")= "list.pop" :=by decide +kernel
theorem lQ:Ea (Str.ofString "append")= "list.append" :=by decide +kernel
theorem lP:Ea (Str.ofString "extend")= "list.extend" :=by decide +kernel
theorem qd {k:Nat}{m:Str}{l vs:List V}{r:V×ag}(h:cY m vs Z k l=some r):MV m (Ea m):=by
 unfold cY at h;split at h
 ·refine bR h fun hm h=>?_;subst hm;refine aa (tt ..) ?_;exact ⟨F.slot_list_pop,F.type_list_pop⟩
 ·split at h
  ·rename_i hm;subst hm;refine aa (lQ ..) ?_;exact ⟨F.slot_list_append,F.type_list_append⟩
  ·refine bR h fun hm h=>?_;subst hm;refine aa (lP ..) ?_;exact ⟨F.slot_list_extend,F.type_list_extend⟩
 ·exact aw h
set_option tactic.hygienic true in
theorem pY {k:Nat}{a:Addr}{m:Str}{l:List V}{vs:List V}{args ac:List Value}{n kk:Nat}(ro:bY A kk) (H:aS prog w X μ s.heap base Z) (ha:μ[k]?=some (a,true)) (hl:IsL s.heap a ac.toArray n) (rl:aG X μ s.heap l ac) (hlen:l.length<=lim) (rs:aG X μ s.heap vs args)
  (h:cY m vs Z k l=some (d,Z')):wpAny (model prog w) A (call (.builtin (Ea m)) (.ref a::args)) (Res prog w base X μ s Z' d) E s:=by
 have hl':lim=1000000:=rfl;have hsl:=sizeLine_eq;have hac:=rl.length;have mvU:∀ (f:Obj->Obj) b o,b≠a->s.heap.get? b=some o->(s.heap.update a f).get? b=some o:=fun f b o ne e=>(Heap.get?_update_other _ _ (Ne.symm ne)).trans e;have mv:∀ {hJ:Heap},(∀ b o,b≠a->s.heap.get? b=some o->hJ.get? b=some o)->∀ b o,¬dY X μ b->s.heap.get? b=some o->hJ.get? b=some o:=fun hk b o nb e=>hk b o (by rintro rfl;exact nb (.inl (cE ha))) e;unfold cY at h;split at h
 ·-- pop
  refine bR h fun hm h=>?_;refine eu h fun x h1 h2=>?_;clear h;refine eU h2 ?_
  cases rs
  subst hm;refine aa (tt ..) ?_;rw [List.getLast?_eq_getElem?] at h1;refine aB (rl.get h1) fun y e1 e2=>?_;have hy:ac.toArray[ac.toArray.size - 1]?=some y:=by refine aa (aC ..) (aa (hac ..) (aa (List.getElem?_toArray ..) ?_));exact e1
  refine call_meets F.slot_list_pop ⟨_,hl,rfl⟩ F.entry_list_pop (F.args_list_pop_1 _) (MeetsSeq.list_pop_last a ac.toArray n y hy (by exact aa (aC ..) (y4 hlen hl' hsl hac))) ⟨hl,?_⟩;have hh:=IsL.update hl fun xs=>xs.eraseIdxIfInBounds (ac.toArray.size - 1);have e3:ac.toArray.eraseIdxIfInBounds (ac.toArray.size - 1)=ac.dropLast.toArray:=by
   apply Array.toList_inj.mp
   refine aa (Array.toList_eraseIdxIfInBounds ..) (aa (aC ..) ?_);exact List.eraseIdx_length_sub_one
  rw [e3] at hh;exact Res.turned H ha (mvU _) hh ((rl.mono (mv (mvU _)) (fc.refl _ _) fun ζ x=>.inl x).dropLast (s:={ s with heap:=_ })) (e2.mono (mv (mvU _)) (fc.refl _ _) fun ζ x=>.inl x)
 ·rename_i x;refine aB (rs.one) fun v Q0 rv=>?_;subst Q0;split at h
  ·-- append
   rename_i hm;subst hm;refine dr h ?_;refine aa (lQ ..) ?_;refine wpAny_list_append_plain ⟨n,hl⟩ (fun hJ ⟨n',hp⟩ hs=>?_) (by exact aa (aC ..) (y4 hlen hl' hsl hac));have hk:∀ b o,b≠a->s.heap.get? b=some o->hJ.get? b=some o:=fun b o ne e=>(hs.2 b ne).trans e;have:ac.toArray.push v=(ac++[v]).toArray:=by simp
   rw [this] at hp;exact Res.turned (tk:=s.toks) H ha hk hp ((rl.append (.cons rv .nil)).mono (mv hk) (fc.refl _ _) fun ζ x=>.inl x) .none
  ·split at h
   ·rename_i hm;subst hm;refine aa (lP ..) ?_;split at h
    ·-- a range
     rename_i i j;refine eu h fun r h1 h2=>?_;clear h;refine eU h2 ?_;change (if i.natAbs<=lim/\j.natAbs<=lim then some _ else none)=some r at h1;refine bR h1 fun hc h1=>?_;refine bp h1 ?_
     cases rv with
     | rng nb hr =>
      refine kH ro.handled hr hc.1 hc.2 hl (Eo hlen hac) fun hJ tk new c' hn hi hk hp=>?_;refine Res.turned H ha hk hp ((rl.mono (mv hk) (fc.refl _ _) fun ζ x=>.inl x).append ?_) .none;have:ItemsOf (fun q v=>∃ t,v=.int (i+q*1) t) new.toArray (j - i).toNat:=⟨by simpa using hn,fun q v e=>by
       refine be (hi q v (by simpa using e)) fun t e'=>?_;exact ⟨t,by exact aa (e' ..) (aa (Int.mul_one ..) rfl)⟩⟩
      exact kB this
    ·refine dv h fun r h1 h2=>?_;clear h;refine bR h2 fun hlr h2=>?_;refine dr h2 ?_;refine dm (iz H rv h1) fun b vs' n' Q1 rr ht=>?_;subst Q1;have hrl:=rr.length;have big:¬(!ac.toArray.isEmpty&&Builtin.List.listTooLong (ac.toArray.size+vs'.toArray.size))=true:=by
      have:Builtin.List.listTooLong (ac.toArray.size+vs'.toArray.size)=false:=by
       simp [Builtin.List.listTooLong];exact G6 hlen hl' hsl hac hlr hrl
      refine aa (this ..) ?_;simp
     have hh:=IsL.update hl fun xs=>xs++vs'.toArray;have e3:ac.toArray++vs'.toArray=(ac++vs').toArray:=by simp
     rw [e3] at hh;have cL:Res prog w base X μ s (Z.set k (.lst (l++r))) .none .none { s with heap:=s.heap.update a (Obj.mapSeq fun xs=>xs++vs'.toArray),toks:=s.toks } :=
      Res.turned H ha (mvU _) hh ((rl.append rr).mono (mv (mvU _)) (fc.refl _ _) fun ζ x=>.inl x) .none
     rcases ht with ht | ht
     ·exact call_meets F.slot_list_extend ⟨_,hl,rfl⟩ F.entry_list_extend (F.args_list_extend_2 _ _) (AutoSeq1.list_extend_list_tuple_0 a ac.toArray n b vs'.toArray n' big (by exact aa (aC ..) (y4 hlen hl' hsl hac)) (by simp only [aC];exact En hlen hl' hsl hac hlr hrl)) ⟨hl,ht,cL⟩
     ·exact call_meets F.slot_list_extend ⟨_,hl,rfl⟩ F.entry_list_extend (F.args_list_extend_2 _ _) (AutoSeq1.list_extend_list_list_0 a ac.toArray n b vs'.toArray n' big (by exact aa (aC ..) (y4 hlen hl' hsl hac)) (by simp only [aC];exact En hlen hl' hsl hac hlr hrl)) ⟨hl,ht,cL⟩
   ·exact aw h
 ·exact aw h
theorem ut {M:Model}{o:Expr}{name:Str}{apos pos:Pos}{as:List Expr}{Q:Value->Shared->Prop}(hb:lH o=true) (hs:as.all dB=true) (hlen:as.length<29) (hline:(apos.endLine==pos.line)=true)
  (h:wpAny M A (eval o env) (fun ov sa=>∀ pl,wpAny M A (getMethod ov name pl) (fun fx sb=>wpAny M A (callWith pos fx.1 fx.2 (backTo pos (starEach as env)) []) Q E sb) E sa) E s) :
  wpAny M A (eval (.Call (.Attribute o name apos) as [] pos) env) Q E s:=by
 refine aa (arm_eval_Call ..) (aa (gm hb ..) ?_);refine ab (az h (fun ov sa hJ=>ab (wpAny_standAt ?_)) fun ζ ζ x=>x);have hform:methodCallForm (as.length+([]:List Keyword).length) (backTo pos (starEach as env)) (backToKw pos (keywordEach [] env))=true:=by
  unfold methodCallForm;refine aa (jh pos hs ..) ?_;show (true&&true&&decide (as.length+0+0<30))=true;simp;exact Em hlen
 have hpos:methodCallPos true o env apos pos=pure pos:=by unfold methodCallPos;simp [hline]
 unfold methodCall calleeOf;refine aa (hform ..) ?_;exact ab (wpAny_holding (az (hJ _) (fun fx sb hU=>ab (wpAny_of_eq hpos hU)) fun ζ ζ x=>x))
noncomputable def j4 (env:Env) (pos:Pos):List (Option Expr)->List Expr->List (Sem Value×Sem Value)
 | some k::ks,v::vs=>(eval k env,do let x ← eval v env;standAt pos;pure x)::j4 env pos ks vs
 | _,_=>[]
theorem oU (pos:Pos) {ks:List (Option Expr)}{vs:List Expr}(h:u7 ks vs):(evalEachOpt ks env).zip ((evalEach vs env).map fun v=>do let x ← v;standAt pos;pure x)=(j4 env pos ks vs).map fun p=>(some p.1,p.2):=by
 induction h with
 | nil=>rfl
 | @cons ks vs x kk p v hk ih =>
  show (some (eval (.Constant (.str x) kk p) env),(do let x ← eval v env;standAt pos;pure x))::(evalEachOpt ks env).zip ((evalEach vs env).map fun v=>do let x ← v;standAt pos;pure x)=_;refine aa (ih ..) ?_;rfl
theorem rJ {ks:List (Option Expr)}(h:jV ks []=true):ks=[]:=by
 induction ks using OA with
 | nil=>rfl
 | cons k r=>exact aM h
theorem nK {n kk:Nat}{x:Str}{p:Pos}{ks:List (Option Expr)}{v:Expr}{vs:List Expr}:evk c (n+1) ρ Z (some (.Constant (.str x) kk p)::ks) (v::vs)=(ev c n ρ Z v).bind fun (a,Z1)=>(evk c n ρ Z1 ks vs).map fun (l,Z2)=>((x,a)::l,Z2):=rfl
theorem zG (pos:Pos) {ks:List (Option Expr)}{vs:List Expr}(hk:u7 ks vs):∀ {n:Nat}{ρ:aL}{Z Z':ag}{fs:List (Str×V)},evk c n ρ Z ks vs=some (fs,Z')->fs.length=vs.length/\(j4 env pos ks vs).length=vs.length:=by
 induction hk with
 | nil =>
  intro n ρ Z Z' fs h
  induction n using OB with
  | zero=>exact aw h
  | succ n =>
   obtain rfl:=congrArg Prod.fst (aq (show some (([]:List (Str×V)),Z)=some (fs,Z') from h));exact ⟨rfl,rfl⟩
 | @cons ks vs x kk p v hk ih =>
  intro n ρ Z Z' fs h
  induction n using OB with
  | zero=>exact aw h
  | succ n =>
   rw [nK] at h;refine bA h fun a Z1 h1 h2=>f8 h2 fun l Z2 h3 h4=>?_;obtain rfl:=congrArg Prod.fst h4;have q:=ih h3;exact ⟨congrArg (·+1) q.1,congrArg (·+1) q.2⟩
noncomputable def t0 (prog:Program) (w:World) (base:Heap) (c:d8) (k n:Nat):Prop:=∀ {X:Addr->Prop}{ρ:aL}{Z Z':ag}{ks:List (Option Expr)}{vs:List Expr}{fs:List (Str×V)}{μ:Mu}{s:Shared}{env:Env}{A:Around}{m:Nat}{pos:Pos}(E:Value->Shared->Prop),evk c n ρ Z ks vs=some (fs,Z') ->
 jV ks vs=true->vs.all (ws c.G m env.scope)=true->bY A k->bE c.G X μ s.heap env ρ->aS prog w X μ s.heap base Z ->
 wpAny (model prog w) A (evalPairs (j4 env pos ks vs)) (fun ps s'=>∃ μ' kvs,Stp No μ μ' s s'/\aS prog w X μ' s'.heap base Z'/\Carries (strKind prog w) ps kvs/\ka X μ' s'.heap fs kvs/\kvs.map (·.1)=fs.map (·.1)) E s
theorem xr {k n:Nat}(hE:m7 prog w base c k n) (hK:t0 prog w base c k n):t0 prog w base c k (n+1):=by
 intro X ρ Z Z' ks vs fs μ s env A m pos E h hk hw ro R H
 cases oE hk with
 | nil =>
  refine dr (show some (([]:List (Str×V)),Z)=some (fs,Z') from h) ?_;exact evalPairs_nil ⟨μ,[],Stp.refl _ _ _,H,trivial,.nil,rfl⟩
 | @cons ks vs x kk p v hk' =>
  rw [nK] at h;refine bA h fun a Z1 h1 h2=>f8 h2 fun l Z2 h3 h4=>?_;refine eU h4 ?_;have hw:=ay.mp hw;refine evalPairs_cons (wpAny_Constant_str ?_);have p0:Stp No μ μ s { s with toks:=s.toks+1 }:=Stp.of_keeps (h':=s.heap) fun ζ ζ e=>e;refine ab (on (hE E h1 hw.1 ro (R.stp p0 H.off) H) fun u μ1 sa pa Hd ra=>?_);refine ab (wpAny_standAt (av ?_));refine az (hK (pos:=pos) E h3 (ay.mp hk).2 hw.2 ro ((R.stp p0 H.off).stp pa H.off) Hd) (fun ps sb hp=>?_) fun ζ ζ x=>x;refine eA hp fun μ2 kvs pb He q1 q2 q3=>?_;clear hp;exact ⟨μ2,(x,u)::kvs,(p0.trans pa).trans pb,He,⟨strKind_is prog w x _,rfl,q1⟩,.cons (ra.stp pb) q2,by simp [q3]⟩
theorem zK {k n m:Nat}{ks:List (Option Expr)}{vs:List Expr}{fs:List (Str×V)}{pos:Pos}(hK:t0 prog w base c k n) (ro:bY A k) (hk:jV ks vs=true) (hw:vs.all (ws c.G m env.scope)=true) (R:bE c.G X μ s.heap env ρ) (H:aS prog w X μ s.heap base Z)
  (h:evk c n ρ Z ks vs=some (fs,Z1)) (h15:fs.length<=15) (hnd:(fs.map (·.1)).Nodup) :
  wpAny (model prog w) A (eval (.Dict ks vs pos) env) (Res prog w base X μ s (Z1++[if fs.isEmpty then .idct 0 else .sdct fs]) (.own Z1.length)) E s:=by
 refine bl (zG (env:=env) pos (oE hk) h) fun l1 l2=>?_;have keep:∀ a o,s.heap.get? a=some o->(s.heap.push { cls:=.type "dict",data:=.dict #[] }).get? a=some o:=fun ζ ζ e=>ak _ e;have nD:s.heap.get? s.heap.objs.size=none:=bP _
 induction hfs:fs using OA with
 | nil =>
  subst hfs;have:vs=[]:=List.eq_nil_of_length_eq_zero (by simpa using l1.symm);subst this;have:ks=[]:=rJ hk;subst this;obtain ⟨n',rfl⟩:∃ n',n=n'+1:=by induction n using OB with
   | zero=>exact aw h
   | succ n'=>exact ⟨n',rfl⟩
  refine dr (show some (([]:List (Str×V)),Z)=some ([],Z1) from h) ?_;refine wpAny_Dict_empty ?_;refine bl (H.add (c:=.idct 0) keep nD (by refine aa (aW _ rfl ..) ?_;rfl) ⟨[],Heap.DictOf.new _,aU _⟩) fun H' hx=>?_;refine ⟨_,⟨⟨_,_,rfl⟩,fun a o ζ ζ e=>keep a o e,bX keep,hx⟩,H',.own (b:=true) ?_⟩;refine aa (aH (H.len ..)) ?_;simp
 | cons f fr =>
  refine aa (aH (hfs ..)) ?_;have hne:fs.isEmpty=false:=by refine aa (hfs ..) ?_;rfl
  have hp:j4 env pos ks vs≠[]:=fun z=>by
   have:=l2;rw [z,← l1,hfs] at this;simp at this
  refine aa (hne ..) ?_
  let X1:Addr->Prop:=fun a=>X a\/a=s.heap.objs.size
  have hX1:∀ a,X1 a->X a\/s.heap.get? a=none:=fun a x=>x.elim .inl fun z=>.inr (by subst z;exact nD);have Hd:aS prog w X1 μ (s.heap.push { cls:=.type "dict",data:=.dict #[] }) base Z:=H.grow (fun a x e ζ=>keep a x e) (bX keep) fun a x=>x.elim .inl fun z=>.inr (by subst z;exact ⟨nD,by refine aa (aW _ rfl ..) ?_;rfl⟩);have R1:bE c.G X1 μ (s.heap.push { cls:=.type "dict",data:=.dict #[] }) env ρ:=by
   have mv:∀ {d:V}{v:Value},bh X μ s.heap d v->bh X1 μ (s.heap.push { cls:=.type "dict",data:=.dict #[] }) d v:=fun r=>r.mono (fun a x ζ e=>keep a x e) (fc.refl _ _) hX1;exact R.imp (fun ζ ζ=>mv) (.inl R.bar) (fun o e=>keep _ o e) fun ζ ζ ζ ζ ζ h h3=>⟨h.keeps keep,.inl h3⟩
  refine wpAny_Dict_pairs (knd:=strKind prog w) (pairs:=j4 env pos ks vs) (oU pos (oE hk)) hp (by refine aa (l2 ..) (aa (aH (l1 ..)) ?_);exact h15) (az (hK (s:={ s with heap:=s.heap.push { cls:=.type "dict",data:=.dict #[] } }) E h hk hw ro R1 Hd) (fun ps sb hq=>?_) fun ζ ζ x=>x);refine eA hq fun μ2 kvs pb He q1 q2 q3=>?_;clear hq;have xD:X1 s.heap.objs.size:=.inr rfl;have d0:(s.heap.push { cls:=.type "dict",data:=.dict #[] }).DictOf (strKind prog w) s.heap.objs.size []:=Heap.DictOf.new _;refine ⟨kvs,q1,d0.at fun o e=>pb.keep _ o (fun l=>Hd.off _ l xD) (fun q=>q) e,fun h' hd hs=>?_⟩;rw [merged_nil_of_nodup _ (by exact aa (q3 ..) (hnd))] at hd;have keep2:∀ a o,a≠s.heap.objs.size->sb.heap.get? a=some o->h'.get? a=some o:=fun a o ne e=>(hs.2 a ne).trans e;have ht:(h'.get? s.heap.objs.size).isSome=true:=by refine cp (hd) fun o ζ ζ e ζ=>?_;clear hd;refine aa (e ..) ?_;rfl
  have Hf:aS prog w X1 μ2 h' base Z1:=He.grow2 (fun ζ x=>x) (fun a o e nx=>keep2 a o (fun z=>nx (z▸xD)) e) fun a x=>by
   by_cases z:a=s.heap.objs.size
   ·refine aa (z ..) ?_;exact ht
   ·refine be (ax.mp (He.here a (.inr x))) fun o e=>?_;refine aa (keep2 a o z e ..) ?_;rfl
  have neX:∀ a,X a->a≠s.heap.objs.size:=fun a x z=>by have:=H.here a (.inr x);rw [z,nD] at this;exact aM this
  have bs:∀ b,dY X (μ2++[(s.heap.objs.size,true)]) b->dY X1 μ2 b:=iq xD fun ζ x=>.inl x;have Hh:aS prog w X (μ2++[(s.heap.objs.size,true)]) h' base (Z1++[.sdct fs]):=Hf.live xD (fun b x=>⟨.inl x,neX b x⟩) ⟨kvs,hd,q2.mono' (fun a o nb e=>keep2 a o (fun z=>nb (.inr (z▸xD))) e) (fun k a b e=>⟨b,ia _ k a b e⟩) fun a z=>.inl (bs a z),by exact G5 h15⟩;refine ⟨_,⟨by obtain ⟨⟨h2,t2,e2⟩,_⟩:=pb;exact ⟨h',sb.toks+ps.length,by exact aa (e2 ..) rfl⟩,fun a o nl ζ e=>keep2 a o (Nat.ne_of_lt (Heap.lt_size e)) (pb.keep a o nl (fun q=>q) (keep a o e)),fun a z=>?_,?_⟩,Hh,.own (b:=true) ?_⟩
  ·refine be (ax.mp z) fun o e=>?_;refine be (ax.mp (pb.there a (by refine aa (keep a o e ..) ?_;rfl))) fun o' e'=>?_;show (h'.get? a).isSome=true;refine aa (keep2 a o' (Nat.ne_of_lt (Heap.lt_size e)) e' ..) ?_;rfl
  ·have:fc μ μ2 s.heap:=⟨pb.ext.ext,fun a l=>(pb.ext.new a l).imp id fun z=>by
    induction e:s.heap.get? a using Oy with
    | none=>rfl
    | some o=>rw [keep a o e] at z;exact gQ z⟩
   exact this.snoc nD
  ·refine aa (aH (He.len ..)) ?_;simp
end
noncomputable def MU (prog:Program) (w:World) (base:Heap) (c:d8) (k n:Nat):Prop:=∀ {X:Addr->Prop}{ρ:aL}{Z Z':ag}{e:Expr}{b:Bool}{μ:Mu}{s:Shared}{env:Env}{A:Around}{m:Nat}(E:Value->Shared->Prop),ev c n ρ Z e=some (.bool b,Z') ->
 ws c.G m env.scope e=true->bY A k->bE c.G X μ s.heap env ρ->aS prog w X μ s.heap base Z->wpAny (model prog w) A (isTrue e env (eval e env)) (j9 prog w base X μ s Z' b) E s
noncomputable def A3 (prog:Program) (w:World) (base:Heap) (c:d8) (k n:Nat):Prop:=∀ {X:Addr->Prop}{ρ:aL}{Z Z':ag}{es:List Expr}{l:List V}{μ:Mu}{s:Shared}{env:Env}{A:Around}{m:Nat}{pos:Pos}(E:Value->Shared->Prop),evs c n ρ Z es=some (l,Z') ->
 es.all dB=true->es.all (ws c.G m env.scope)=true->bY A k->bE c.G X μ s.heap env ρ->aS prog w X μ s.heap base Z->wpAny (model prog w) A (spliced (backTo pos (starEach es env))) (qR prog w base X μ s Z' l) E s
noncomputable def A4 (prog:Program) (w:World) (base:Heap) (c:d8) (k n:Nat):Prop:=∀ {X:Addr->Prop}{ρ:aL}{Z Z':ag}{op:BoolOp}{es:List Expr}{d:V}{μ:Mu}{s:Shared}{env:Env}{A:Around}{m:Nat}{pos:Pos}(E:Value->Shared->Prop),evb c n ρ Z op es=some (d,Z') ->
 es.all (ws c.G m env.scope)=true->bY A k->bE c.G X μ s.heap env ρ->aS prog w X μ s.heap base Z->wpAny (model prog w) A (boolOp pos op (evalEach es env)) (Res prog w base X μ s Z' d) E s
noncomputable def yd (prog:Program) (w:World) (base:Heap) (c:d8) (k n:Nat):Prop:=∀ {X:Addr->Prop}{ρ:aL}{Z Z':ag}{op:BoolOp}{es:List Expr}{b:Bool}{μ:Mu}{s:Shared}{env:Env}{A:Around}{m:Nat}(E:Value->Shared->Prop),evb c n ρ Z op es=some (.bool b,Z') ->
 es.all (ws c.G m env.scope)=true->bY A k->bE c.G X μ s.heap env ρ->aS prog w X μ s.heap base Z->wpAny (model prog w) A (allTrue op es env) (j9 prog w base X μ s Z' b) E s
structure fK (prog:Program) (w:World) (base:Heap) (c:d8) (k n:Nat):Prop where
 ev:m7 prog w base c k n
 tr:MU prog w base c k n
 evs:A3 prog w base c k n
 evk:t0 prog w base c k n
 evb:A4 prog w base c k n
 evbT:yd prog w base c k n
 ifs:tY prog w base c k n
section
variable {prog:Program}{w:World}{K:Frag}{base:Heap}{c:d8}{X X1:Addr->Prop}{μ μ':Mu}{h h':Heap}{s s0 s':Shared}{Z Z' Z'' Z1:ag}{ρ ρb ρ':aL}{env cenv:Env}{A:Around}{E:Value->Shared->Prop}{d e da:V}{k n:Nat}
theorem vX {b:Bool}{v:Value}(r:bh X μ h (.bool b) v):v=.bool b:=by cases r;rfl
theorem xq (I:fK prog w base c k n):A3 prog w base c k (n+1):=by
 intro X ρ Z Z' es l μ s env A m pos E h hs hw ro R H
 induction es using OA with
 | nil=>refine dr (show some (([]:List V),Z)=some (l,Z') from h) ?_;exact wpAny_items_nil ⟨μ,Stp.refl _ _ _,H,.nil⟩
 | cons e r =>
  have h:(Mine.ev c n ρ Z e).bind (fun (v,Z)=>(Mine.evs c n ρ Z r).map fun (l,Z)=>(v::l,Z))=some (l,Z'):=h;refine bA h fun d Z1 h1 h2=>?_;clear h;refine f8 h2 fun ds Z2 h3 h4=>?_;clear h2;refine eU h4 ?_;rw [List.all_cons,Bool.and_eq_true] at hs hw;refine wpAny_items_cons (az (I.ev E h1 hw.1 ro R H) (fun v sa hv=>?_) fun ζ ζ x=>x) (b7 hs.1);refine Res.el (hv) fun μ1 pa Hd ra=>?_;clear hv;refine az (I.evs E h3 hs.2 hw.2 ro (R.stp pa H.off) Hd) (fun vs sb hv=>?_) fun ζ ζ x=>x;refine qR.el (hv) fun μ2 pb He rb=>?_;clear hv;exact ⟨μ2,pa.trans pb,He,.cons (ra.stp pb) rb⟩
theorem wW (I:fK prog w base c k n):tY prog w base c k (n+1):=by
 intro X ρ Z Z' es b μ s env A m E h hw ro R H
 induction es using OA with
 | nil=>refine dr (show some (true,Z)=some (b,Z') from h) ?_;exact wpAny_tests_nil ⟨rfl,μ,Stp.refl _ _ _,H⟩
 | cons e r =>
  have h:(Mine.ev c n ρ Z e).bind (fun (v,Z)=>match v with | .bool true=>tI c n ρ Z r | .bool false=>some (false,Z) | _=>none)=some (b,Z'):=h;refine bA h fun d Z1 h1 h2=>?_;rw [List.all_cons,Bool.and_eq_true] at hw;have step:∀ t,d=.bool t->(if t then tI c n ρ Z1 r else some (false,Z1))=some (b,Z')->wpAny (model prog w) A (jy (e::r) env) (j9 prog w base X μ s Z' b) E s:=by
   intro t ht h2;subst ht;unfold jy;refine aa (List.forIn_cons ..) ?_;simp only [if_true];refine ab (ab (az (I.tr E h1 hw.1 ro R H) (fun q sa hq=>?_) fun ζ ζ x=>x));obtain ⟨rfl,μ1,pa,Hd⟩:=hq;refine av ?_
   induction q using Oz with
   | true =>
    exact az (I.ifs E (show tI c n ρ Z1 r=some (b,Z') from h2) hw.2 ro (R.stp pa H.off) Hd) (fun q sb hq=>hq.after pa) fun ζ ζ x=>x
   | false =>
    cases (show some (false,Z1)=some (b,Z') from h2)
    have rest:∀ (es:List Expr),wpAny (model prog w) A (forIn es false fun c r=>if r=true then do let ok ← isTrue c env (eval c env);pure (ForInStep.yield ok) else pure (ForInStep.yield r)) (j9 prog w base X μ s Z' false) E sa:=by
     intro es
     induction es with
     | nil=>exact av ⟨rfl,μ1,pa,Hd⟩
     | cons e es ih =>
      refine aa (List.forIn_cons ..) ?_;simp only [Bool.false_eq_true,if_false];exact ab (av ih)
    exact rest r
  induction d using V.casesOn with
  | bool t=>exact step t rfl (by induction t using Oz<;>exact h2)
  | _=>exact aw h2
theorem xt (I:fK prog w base c k n):A4 prog w base c k (n+1):=by
 intro X ρ Z Z' op es d μ s env A m pos E h hw ro R H
 match es with
 | []=>induction op using BoolOp.casesOn<;>exact aw (show none=some (d,Z') from h)
 | [e] =>
  have h:(Mine.ev c n ρ Z e).bind (fun (v,Z)=>match v with | .bool b=>some (.bool b,Z) | _=>none)=some (d,Z'):=by induction op using BoolOp.casesOn<;>exact h
  refine bA h fun v Z1 h1 h2=>?_;clear h;simp only [List.all_cons,List.all_nil,Bool.and_true] at hw
  induction v using V.casesOn with
  | bool b=>refine dr h2 ?_;exact I.ev E h1 hw ro R H
  | _=>exact aw h2
 | e::e'::r =>
  have h:(Mine.ev c n ρ Z e).bind (fun (v,Z)=>match op,v with
   | .And,.bool true=>Mine.evb c n ρ Z .And (e'::r)
   | .And,.bool false=>some (.bool false,Z)
   | .Or,.bool false=>Mine.evb c n ρ Z .Or (e'::r)
   | .Or,.bool true=>some (.bool true,Z)
   | _,_=>none)=some (d,Z'):=by induction op using BoolOp.casesOn<;>exact h
  refine bA h fun v Z1 h1 h2=>?_;clear h;rw [List.all_cons,Bool.and_eq_true] at hw;show wpAny (model prog w) A (eval e env >>= fun v=>standAt pos >>= fun ζ=>holding [v] (truthy v) >>= fun t=>match op,t with
   | .And,false | .Or,true=>pure v
   | _,_=>boolOp pos op (evalEach (e'::r) env)) _ _ s
  refine ab (az (I.ev E h1 hw.1 ro R H) (fun u sa hu=>?_) fun ζ ζ x=>x);refine Res.el (hu) fun μ1 pa Hd ra=>?_;clear hu
  induction v using V.casesOn with
  | bool b =>
   have:=vX ra;subst this;refine ab (wpAny_standAt (ab (wpAny_holding (wpAny_truthy_bool ?_))))
   induction op using BoolOp.casesOn<;>induction b using Oz
   ·refine dr h2 ?_;exact av ⟨μ1,pa,Hd,.bool false⟩
   ·exact az (I.evb E h2 hw.2 ro (R.stp pa H.off) Hd) (fun q sb hq=>hq.after pa) fun ζ ζ x=>x
   ·exact az (I.evb E h2 hw.2 ro (R.stp pa H.off) Hd) (fun q sb hq=>hq.after pa) fun ζ ζ x=>x
   ·refine dr h2 ?_;exact av ⟨μ1,pa,Hd,.bool true⟩
  | _=>induction op using BoolOp.casesOn<;>exact aw h2
theorem uK (I:fK prog w base c k n):yd prog w base c k (n+1):=by
 intro X ρ Z Z' op es b μ s env A m E h hw ro R H
 match es with
 | []=>induction op using BoolOp.casesOn<;>exact aw (show none=some (V.bool b,Z') from h)
 | [e] =>
  have h:(Mine.ev c n ρ Z e).bind (fun (v,Z)=>match v with | .bool b=>some (V.bool b,Z) | _=>none)=some (.bool b,Z'):=by induction op using BoolOp.casesOn<;>exact h
  refine bA h fun v Z1 h1 h2=>?_;clear h;simp only [List.all_cons,List.all_nil,Bool.and_true] at hw
  induction v using V.casesOn with
  | bool b' =>
   cases h2
   induction op using BoolOp.casesOn with
   | And =>
    refine wpAny_allTrue_And_cons (az (I.tr E h1 hw ro R H) (fun q sa hq=>?_) fun ζ ζ x=>x);obtain ⟨rfl,μ1,pa,Hd⟩:=hq
    induction q using Oz with
    | true=>exact wpAny_allTrue_And_nil ⟨rfl,μ1,pa,Hd⟩
    | false=>exact ⟨rfl,μ1,pa,Hd⟩
   | Or =>
    refine wpAny_allTrue_Or_cons (az (I.tr E h1 hw ro R H) (fun q sa hq=>?_) fun ζ ζ x=>x);obtain ⟨rfl,μ1,pa,Hd⟩:=hq
    induction q using Oz with
    | true=>exact ⟨rfl,μ1,pa,Hd⟩
    | false=>exact wpAny_allTrue_Or_nil ⟨rfl,μ1,pa,Hd⟩
  | _=>exact aw h2
 | e::e'::r =>
  have h:(Mine.ev c n ρ Z e).bind (fun (v,Z)=>match op,v with
   | .And,.bool true=>Mine.evb c n ρ Z .And (e'::r)
   | .And,.bool false=>some (.bool false,Z)
   | .Or,.bool false=>Mine.evb c n ρ Z .Or (e'::r)
   | .Or,.bool true=>some (.bool true,Z)
   | _,_=>none)=some (.bool b,Z'):=by induction op using BoolOp.casesOn<;>exact h
  refine bA h fun v Z1 h1 h2=>?_;clear h;rw [List.all_cons,Bool.and_eq_true] at hw
  induction v using V.casesOn with
  | bool b' =>
   induction op using BoolOp.casesOn with
   | And =>
    refine wpAny_allTrue_And_cons (az (I.tr E h1 hw.1 ro R H) (fun q sa hq=>?_) fun ζ ζ x=>x);obtain ⟨rfl,μ1,pa,Hd⟩:=hq
    induction q using Oz with
    | true=>exact az (I.evbT E h2 hw.2 ro (R.stp pa H.off) Hd) (fun q sb hq=>hq.after pa) fun ζ ζ x=>x
    | false=>cases h2;exact ⟨rfl,μ1,pa,Hd⟩
   | Or =>
    refine wpAny_allTrue_Or_cons (az (I.tr E h1 hw.1 ro R H) (fun q sa hq=>?_) fun ζ ζ x=>x);obtain ⟨rfl,μ1,pa,Hd⟩:=hq
    induction q using Oz with
    | true=>cases h2;exact ⟨rfl,μ1,pa,Hd⟩
    | false=>exact az (I.evbT E h2 hw.2 ro (R.stp pa H.off) Hd) (fun q sb hq=>hq.after pa) fun ζ ζ x=>x
  | _=>induction op using BoolOp.casesOn<;>exact aw h2
theorem jE {op:CmpOp}{r:Expr}(h:dQ r=true):behindInMarks op r=false:=by induction r using Expr.casesOn<;>first | rfl | exact aM h
end
section
variable {prog:Program}{w:World}{K:Frag}{base:Heap}{c:d8}{X X1:Addr->Prop}{μ μ':Mu}{h h':Heap}{s s0 s':Shared}{Z Z' Z'' Z1:ag}{ρ ρb ρ':aL}{env cenv:Env}{A:Around}{E:Value->Shared->Prop}{d e da:V}{k n:Nat}{ex:Expr}
theorem pC (hE:m7 prog w base c k (n+1)) {b:Bool}{m:Nat}(h:Mine.ev c (n+1) ρ Z ex=some (.bool b,Z')) (hw:ws c.G m env.scope ex=true) (ro:bY A k) (R:bE c.G X μ s.heap env ρ) (H:aS prog w X μ s.heap base Z) (he:∀ wh,isTrue ex env wh=(do let v ← wh;standAt ex.pos;holding [v] (truthy v))):wpAny (model prog w) A (isTrue ex env (eval ex env)) (j9 prog w base X μ s Z' b) E s :=
 wpAny_isTrue_value (on (hE E h hw ro R H) fun u μ1 sa pa Hd ra=>by
  obtain rfl:=ra.view;exact wpAny_truthy_bool ⟨rfl,μ1,pa,Hd⟩) (he _)
theorem Ol {α:Type}{v:V}{f:Bool->Option α}{r:α}(h:(match v with | .bool b=>f b | _=>none)=some r):∃ b,v=.bool b/\f b=some r:=by
 induction v using V.casesOn with
 | bool b=>exact ⟨b,rfl,h⟩
 | _=>exact aw h
theorem Ok {α:Type}{v:V}{f:Int->Option α}{r:α}(h:(match v with | .int b=>f b | _=>none)=some r):∃ b,v=.int b/\f b=some r:=by
 induction v using V.casesOn with
 | int b=>exact ⟨b,rfl,h⟩
 | _=>exact aw h
theorem MR {α:Type}{v:V}{a b:Option α}{r:α}(h:(match v with | .bool true=>a | .bool false=>b | _=>none)=some r):∃ t,v=.bool t/\(if t then a else b)=some r:=by
 induction v using V.casesOn with
 | bool t=>induction t using Oz<;>exact ⟨_,rfl,h⟩
 | _=>exact aw h
theorem xu {l r:Expr}{ops:List CmpOp}{rs:List Expr}{pos:Pos}(h:Mine.ev c (n+1) ρ Z (.Compare l ops rs pos)=some (d,Z')):∃ op r,ops=[op]/\rs=[r]/\(Mine.ev c n ρ Z l).bind (fun (a,Z)=>(Mine.ev c n ρ Z r).bind fun (b,Z)=>(mj Z op a b).map fun t=>(V.bool t,Z))=some (d,Z'):=by
 induction ops using OA with
 | nil=>exact aw (show none=some (d,Z') from h)
 | cons op ops =>
  induction ops using OA with
  | cons _ _=>exact aw (show none=some (d,Z') from h)
  | nil =>
   induction rs using OA with
   | nil=>exact aw (show none=some (d,Z') from h)
   | cons r rs =>
    induction rs using OA with
    | cons _ _=>exact aw (show none=some (d,Z') from h)
    | nil=>exact ⟨op,r,rfl,rfl,h⟩
theorem Aa {α:Type}{f:α->Bool}{x:α}(h:[x].all f=true):f x=true:=(ay.mp h).1
theorem xJ {l r:Expr}{op:CmpOp}{m:Nat}{t:Bool}{Z1 Z2:ag}{v u:V}{Q:Value->Shared->Prop}(I:fK prog w base c k n) (h1:Mine.ev c n ρ Z l=some (v,Z1)) (h3:Mine.ev c n ρ Z1 r=some (u,Z2)) (h5:mj Z2 op v u=some t) (w1:ws c.G m env.scope l=true) (w2:ws c.G m env.scope r=true) (ro:bY A k) (R:bE c.G X μ s.heap env ρ) (H:aS prog w X μ s.heap base Z)
  (hQ:∀ μ' s',Stp No μ μ' s s'->aS prog w X μ' s'.heap base Z2->Q (.bool t) s'):wpAny (model prog w) A (eval l env) (fun a sa=>wpAny (model prog w) A (eval r env) (fun b sb=>wpAny (model prog w) A (compareOp op a b) Q E sb) E sa) E s :=
 on (I.ev E h1 w1 ro R H) fun a μ1 sa pa Hd ra=>on (I.ev E h3 w2 ro (R.stp pa H.off) Hd) fun b μ2 sb pb He rb =>
  az (C9 ro He (ra.stp pb) rb h5) (fun q se hq=>by refine bl (hq) fun Q0 Q1=>?_;clear hq;subst Q0;subst Q1;exact hQ μ2 se (pa.trans pb) He) fun ζ ζ x=>x
theorem yn (I:fK prog w base c k n) (hE:m7 prog w base c k (n+1)):MU prog w base c k (n+1):=by
 intro X ρ Z Z' e b μ s env A m E h hw ro R H
 induction m using OB with
 | zero=>exact aM hw
 | succ m =>
 induction e using Expr.casesOn with
 | UnaryOp op x pos =>
  induction op using UnaryOp.casesOn with
  | Not =>
   refine bA h fun v Z1 h1 h2=>?_;refine aB (Ol h2) fun b' Q0 h2=>?_;subst Q0
   cases h2
   exact wpAny_isTrue_Not (az (I.tr E h1 hw ro R H) (fun q sa ⟨e,a,b,c⟩=>⟨congrArg (!·) e,a,b,c⟩) fun ζ ζ x=>x)
  | _=>exact pC hE h hw ro R H fun ζ=>rfl
 | BoolOp op es pos=>exact wpAny_isTrue_BoolOp (I.evbT E h hw ro R H)
 | IfExp t a b' pos =>
  refine bA h fun v Z1 h1 h2=>?_;refine aB (MR h2) fun t' Q1 h2=>?_;subst Q1;have hw:=iY hw;refine aa (arm_isTrue_IfExp ..) ?_;refine ab (N9 (I.tr E h1 hw.1 ro R H) fun μ1 sa pa Hd=>?_)
  induction t' using Oz with
  | true=>exact MI pa (I.tr E h2 hw.2.1 ro (R.stp pa H.off) Hd)
  | false=>exact MI pa (I.tr E h2 hw.2.2 ro (R.stp pa H.off) Hd)
 | Compare l ops rs pos =>
  refine bG (xu h (r:=l)) fun op r Q2 Q3 h=>?_;subst Q2;subst Q3;refine bA h fun v Z1 h1 h2=>bA h2 fun u Z2 h3 h4=>eu h4 fun t h5 h6=>?_
  cases h6
  have hw:=iY hw;exact wpAny_isTrue_Compare1 (xJ I h1 h3 h5 hw.1 (Aa hw.2.2) ro R H fun μ2 sb pb He=>wpAny_truthy_bool ⟨rfl,μ2,pb,He⟩) (jE (Aa hw.2.1))
 | _=>exact pC hE h hw ro R H fun ζ=>rfl
theorem CY {o i:Expr}{p:Pos}(hs:kC i=false):ev c (n+1) ρ Z (.Subscript o i p)=(ev c n ρ Z o).bind fun (v,Z)=>(ev c n ρ Z i).bind fun (w,Z)=>vx Z v w:=by
 induction i using Expr.casesOn<;>first | rfl | exact cg hs
theorem tP {f:Value}{vs:List V}{args:List Value}(D:Wd K base c) (hP:fb prog w K base c k) (ro:bY A k) (H:aS prog w X μ s.heap base Z) (rs:aG X μ s.heap vs args)
  (h:(match f with | .ref a=>c.Φ a vs Z | b=>(eG Z b vs).map (·,Z))=some (d,Z')):wpAny (model prog w) A (call f args) (Res prog w base X μ s Z' d) E s:=by
 have other:(eG Z f vs).map (·,Z)=some (d,Z')->wpAny (model prog w) A (call f args) (Res prog w base X μ s Z' d) E s:=fun h=>by
  refine eu h fun d' h1 h2=>?_;clear h;refine eU h2 ?_;exact mB ro H rs h1
 induction f using Value.casesOn with
 | ref a =>
  refine wpAny_call (codeAny_mono ((hP a vs Z d Z' h).2 A ro X μ s args H rs) fun r s' hr=>?_);obtain ⟨u,μ',rfl,p,H',r'⟩:=hr;exact ⟨μ',p,H',r'⟩
 | _=>exact other h
theorem zF {n:Nat}{ρ:aL}{Z Z':ag}{es:List Expr}{l:List V}(h:Mine.evs c n ρ Z es=some (l,Z')):l.length=es.length:=by
 induction n generalizing ρ Z Z' es l with
 | zero=>exact aw h
 | succ n ih =>
  induction es using OA with
  | nil=>exact dr h rfl
  | cons e r=>exact bA h fun d Z1 h1 h2=>f8 h2 fun ds Z2 h3 h4=>eU (P:=fun l ζ=>l.length=_) h4 (congrArg Nat.succ (ih h3))
noncomputable def Og (i:Int):Value->Bool
 | .int j _=>j==i
 | _=>false
theorem qz {i:Int}{ac:List Value}{xs:List Int}(r:IntsAre ac xs):List.countP (Og i) ac=xs.countP (·==i):=by
 induction r with
 | nil=>rfl
 | cons n t r ih=>exact aa (List.countP_cons ..) (aa (List.countP_cons ..) (aa ih rfl))
theorem xH {q:Const}{kk:Nat}{pos:Pos}(H:aS prog w X μ s.heap base Z) (h:Mine.ev c (n+1) ρ Z (.Constant q kk pos)=some (d,Z')):wpAny (model prog w) A (eval (.Constant q kk pos) env) (Res prog w base X μ s Z' d) E s:=by
 induction q using Const.casesOn with
 | none=>exact wpAny_Constant_none ((Res.now H .none).eqv (aq h))
 | bool b=>exact wpAny_Constant_bool ((Res.now H (.bool b)).eqv (aq h))
 | int i=>exact wpAny_mkInt ((Res.tok H (.int _ _)).eqv (aq h))
 | str x=>exact wpAny_Constant_str ((Res.tok H (.str _ _)).eqv (aq h))
 | _=>exact aw (show none=some (d,Z') from h)
theorem qh {es:List Expr}{l:List V}{vs:List Value}{h:Heap}(r:aG X μ h l vs) (h1:Mine.evs c n ρ Z es=some (l,Z')) (hw:decide (es.length<=1000)=true):vs.length<=sizeLine:=by
 refine aa (r.length ..) (aa (zF h1 ..) (aa (sizeLine_eq ..) ?_));exact af (ao hw) (by decide)
theorem x5 {v:V}{x:Str}(h:(match v with
   | .own k=>(match Z[k]? with
    | some (.inst C d)=>(match Z[d]? with
     | some (.attrs fs)=>if c.att C x then (lk x fs).map (·,Z) else none
     | _=>none)
    | _=>none)
   | _=>none)=some (d,Z')):∃ k C dk fs d',v=.own k/\Z[k]?=some (.inst C dk)/\Z[dk]?=some (.attrs fs)/\c.att C x=true/\lk x fs=some d'/\(d',Z)=(d,Z'):=by
 induction v using V.casesOn with
 | own k =>
  dsimp only at h
  induction e1:Z[k]? using Oy with
  | none=>rw [e1] at h;exact aw h
  | some cl =>
   rw [e1] at h
   induction cl using Cell.casesOn with
   | inst C dk =>
    dsimp only at h
    induction e2:Z[dk]? using Oy with
    | none=>rw [e2] at h;exact aw h
    | some cl =>
     rw [e2] at h
     induction cl using Cell.casesOn with
     | attrs fs=>exact bR h fun ha h=>eu h fun d' e3 e4=>⟨k,C,dk,fs,d',rfl,e1,e2,ha,e3,e4⟩
     | _=>exact aw h
   | _=>exact aw h
 | _=>exact aw h
theorem vq {t1 t2:Expr}{f:Str->Str->Bool}(h:(match t1,t2 with | .Name x1 _,.Name x2 _=>f x1 x2 | _,_=>false)=true):∃ x1 p1 x2 p2,t1=.Name x1 p1/\t2=.Name x2 p2:=by
 induction t1 using Expr.casesOn with
 | Name x1 p1 =>
  induction t2 using Expr.casesOn with
  | Name x2 p2=>exact ⟨x1,p1,x2,p2,rfl,rfl⟩
  | _=>exact aM h
 | _=>exact aM h
theorem ve {G:List (Str×V)}{m:Nat}{sc:Scope}{elt it it2 t1 t2:Expr}{ifs1 ifs2:List Expr}{a1 a2:Int}{scope:Scope}{pos:Pos}(hw:ws G (m+1) sc (.ListComp elt [⟨t1,it,ifs1,a1⟩,⟨t2,it2,ifs2,a2⟩] scope pos)=true):∃ x1 p1 x2 p2,ifs1=[]/\ifs2=[]/\a1=0/\a2=0/\t1=.Name x1 p1/\t2=.Name x2 p2:=by
 have h10:=bF hw;have h9:=bF h10.1;have h8:=bF h9.1;have h7:=z8 (bF (bF (bF h8.1).1).1).1;refine oO (vq h8.2) fun x1 p1 x2 p2 e1 e2=>?_;exact ⟨x1,p1,x2,p2,List.isEmpty_iff.mp h7.1,List.isEmpty_iff.mp h7.2.1,beq_iff_eq.mp h7.2.2.1,beq_iff_eq.mp h7.2.2.2,e1,e2⟩
theorem wV (I:fK prog w base c k n) {o i:Expr}{pos:Pos}{m:Nat}(hs:kC i=false) (h:Mine.ev c (n+1) ρ Z (.Subscript o i pos)=some (d,Z')) (hw:ws c.G (m+1) env.scope (.Subscript o i pos)=true) (ro:bY A k) (R:bE c.G X μ s.heap env ρ) (H:aS prog w X μ s.heap base Z):wpAny (model prog w) A (eval (.Subscript o i pos) env) (Res prog w base X μ s Z' d) E s:=by
 rw [CY hs] at h;have hw:=iY (show (!kC i&&ws c.G m env.scope o&&ws c.G m env.scope i)=true by induction i using Expr.casesOn<;>first | exact hw | exact cg hs);exact bA h fun v Z1 h1 h2=>bA h2 fun u Z2 h3 h4=>Subscript_ (on (I.ev E h1 hw.2.1 ro R H) fun a μ1 sa pa Hd ra=>on (I.ev E h3 hw.2.2 ro (R.stp pa H.off) Hd) fun b μ2 sb pb He rb=>uL (pa.trans pb) (yq hs He (ra.stp pb) rb h4))
theorem vO (I:fK prog w base c k n) {o:Expr}{lo up sp:Option Expr}{p pos:Pos}{m:Nat}(h:Mine.ev c (n+1) ρ Z (.Subscript o (.Slice lo up sp p) pos)=some (d,Z')) (hw:ws c.G (m+1) env.scope (.Subscript o (.Slice lo up sp p) pos)=true) (ro:bY A k) (R:bE c.G X μ s.heap env ρ) (H:aS prog w X μ s.heap base Z):wpAny (model prog w) A (eval (.Subscript o (.Slice lo up sp p) pos) env) (Res prog w base X μ s Z' d) E s:=by
 have hw':=iY hw
 induction lo using Oy with
 | some _=>exact aM hw'.1
 | none =>
 refine bA h fun v Z1 h1 h2=>?_;clear h hw
 induction up using Oy with
 | some u =>
  induction sp using Oy with
  | some _=>exact aw h2
  | none =>
   refine bA h2 fun w' Z2 h3 h4=>?_;refine aB (Ok h4) fun j Q0 h4=>?_;subst Q0;refine Subscript_ (on (I.ev E h1 hw'.2.1 ro R H) fun a μ1 sa pa Hd ra=>?_);refine wpAny_Slice (wpAny_evalPart_none (wpAny_evalPart_some (on (I.ev E h3 hw'.2.2 ro (R.stp pa H.off) Hd) fun b μ2 sb pb He rb=>?_)));refine be (rb.view) fun ζ Q1=>?_;subst Q1;exact wpAny_evalPart_none (az (C8 He (ra.stp pb) h4) (fun ζ ζ q=>q.after (pa.trans pb)) fun ζ ζ x=>x)
 | none =>
  induction sp using Oy with
  | none=>exact aw h2
  | some e =>
   have hw':=hw'.2.1
   induction e using Expr.casesOn with
   | Constant q kk pp =>
    induction q using Const.casesOn with
    | int i =>
     induction i using Int.casesOn with
     | negSucc _=>exact aw h2
     | ofNat nn =>
      induction nn using OB with
      | zero=>exact aw h2
      | succ nn =>
      induction nn using OB with
      | zero=>exact aw h2
      | succ nn =>
      induction nn using OB with
      | succ _=>exact aw h2
      | zero =>
       refine Subscript_ (on (I.ev E h1 hw' ro R H) fun a μ1 sa pa Hd ra=>?_)
       induction v using V.casesOn with
       | lst l =>
        refine bR h2 fun hl h2=>?_;refine wpAny_Slice (wpAny_evalPart_none (wpAny_evalPart_none (wpAny_evalPart_some (wpAny_mkInt ?_))));have p0:Stp No μ1 μ1 sa { sa with toks:=sa.toks+1 }:=Stp.of_keeps (h':=sa.heap) fun ζ ζ e=>e;exact az (zM (s:={ sa with toks:=sa.toks+1 }) rfl Hd ra hl) (fun ζ ζ q=>(q.after (pa.trans p0)).eqv (aq h2)) fun ζ ζ x=>x
       | _=>exact aw h2
    | _=>exact aw h2
   | _=>exact aw h2
theorem rF {x:Str}{v:V}{t:DF}(h:gx c Z x v=some t):(∃ q C dk fs f,v=.own q/\Z[q]?=some (.inst C dk)/\Z[dk]?=some (.attrs fs)/\lk x fs=none/\c.mth C x=some f/\t=.fn f (.own q))\/(∃ q l,v=.own q/\Z[q]?=some (.lst l)/\t=.cell q)\/∃ l,v=.lst l/\t=.tree l:=by
 induction v using V.casesOn with
 | own q =>
  unfold gx at h;dsimp only at h
  induction e1:Z[q]? using Oy with
  | none=>rw [e1] at h;exact aw h
  | some cl =>
   rw [e1] at h
   induction cl using Cell.casesOn with
   | lst l=>exact .inr (.inl ⟨q,l,rfl,e1,(aq h).symm⟩)
   | inst C dk =>
    dsimp only at h
    induction e2:Z[dk]? using Oy with
    | none=>rw [e2] at h;exact aw h
    | some cl =>
     rw [e2] at h
     induction cl using Cell.casesOn with
     | attrs fs=>exact bR h fun hn h=>eu h fun f hf e=>.inl ⟨q,C,dk,fs,f,rfl,e1,e2,Option.isNone_iff_eq_none.mp hn,hf,e.symm⟩
     | _=>exact aw h
   | _=>exact aw h
 | lst l=>exact .inr (.inr ⟨l,rfl,(aq h).symm⟩)
 | _=>exact aw h
noncomputable abbrev mM (prog:Program) (w:World) (base:Heap) (A:Around) (X:Addr->Prop) (μ:Mu) (s:Shared) (as:List Expr) (env:Env) (pos:Pos) (vs:List V) (Z2:ag):Prop:=∀ E:Value->Shared->Prop,wpAny (model prog w) A (spliced (backTo pos (starEach as env))) (qR prog w base X μ s Z2 vs) E s
theorem wD {as:List Expr}{x:Str}{pos:Pos}{pl:Sem Bool}{q:Nat}{l vs:List V}{u:Value}{Z2:ag}(ro:bY A k) (hs:as.all dB=true) (H:aS prog w X μ s.heap base Z) (r:bh X μ s.heap (.own q) u) (e1:Z[q]?=some (.lst l)) (args:mM prog w base A X μ s as env pos vs Z2) (h6:gu c x vs Z2 (.cell q)=some (d,Z')) :
  wpAny (model prog w) A (getMethod u x pl) (fun fx sb=>wpAny (model prog w) A (callWith pos fx.1 fx.2 (backTo pos (starEach as env)) []) (Res prog w base X μ s Z' d) E sb) E s:=by
 unfold gu at h6;dsimp only at h6
 induction e2:Z2[q]? using Oy with
 | none=>rw [e2] at h6;exact aw h6
 | some cl =>
  rw [e2] at h6
  induction cl using Cell.casesOn with
  | lst l' =>
   refine bR h6 fun hl h6=>?_;obtain ⟨a,rfl,ha,ac0,n0,hla,_⟩:=H.ownAt r e1 (by simp);have M:=qd h6;refine getMethod_builtin ⟨_,hla,rfl⟩ F.plainAttrs_list M.slot M.ty (fun b e=>by cases e;exact ⟨_,hla,rfl⟩) ?_;refine fJ hs (fun ζ=>nofun) (Bh (args E) fun ws' μ2 sb pb He rb=>?_);obtain ⟨a',e',ha',ac,n',hl',rl⟩:=He.ownAt (r.stp pb) e2 (by simp)
   cases e'
   exact uL pb (pY ro He ha' hl' rl hl rb h6)
  | _=>exact aw h6
theorem wz {as:List Expr}{x:Str}{pos:Pos}{pl:Sem Bool}{l vs:List V}{u:Value}{Z2:ag}(hs:as.all dB=true) (r:bh X μ s.heap (.lst l) u) (args:mM prog w base A X μ s as env pos vs Z2) (h6:gu c x vs Z2 (.tree l)=some (d,Z')) :
  wpAny (model prog w) A (getMethod u x pl) (fun fx sb=>wpAny (model prog w) A (callWith pos fx.1 fx.2 (backTo pos (starEach as env)) []) (Res prog w base X μ s Z' d) E sb) E s:=by
 refine cM (r.view) fun a ac n' Q0 nb ht rl=>?_;subst Q0
 induction vs using OA with
 | nil=>exact aw h6
 | cons v vs =>
  induction vs using OA with
  | cons _ _=>induction v using V.casesOn<;>exact aw h6
  | nil =>
   induction v using V.casesOn with
   | int i =>
    refine bR h6 fun hc h6=>eu h6 fun xs e1 e2=>?_;refine bl hc fun Q1 hll=>?_;clear hc;subst Q1;refine getMethod_builtin ⟨_,ht,rfl⟩ F.plainAttrs_list F.slot_list_count F.type_list_count (fun b e=>by cases e;exact ⟨_,ht,rfl⟩) ?_;refine fJ hs (fun ζ=>nofun) (Bh (args E) fun ws' μ2 sb pb He rb=>?_);refine aB (rb.one) fun y Q2 ry=>?_;subst Q2;refine be (ry.view) fun ζ Q3=>?_;subst Q3;have hta:IsL sb.heap a ac.toArray n':=pb.keep _ _ (fun l=>nb (.inl l)) (fun q=>q) ht;have I':=jw (rl.stp pb) e1;refine call_meets F.slot_list_count ⟨_,hta,rfl⟩ F.entry_list_count (F.args_list_count_2 _ _) (MeetsSeq.list_count a ac.toArray n' _ (Og i) (fun y hy=>by
     refine rV (I'.allInts y hy) fun j t Q4=>?_;subst Q4;exact MeetsSeq.EqGives.int j i t _)) ⟨hta,?_⟩
    have:=qz (i:=i) I';refine aa (show (ac.toArray.toList)=ac from rfl ..) (aa (this ..) ?_);exact ((Res.tok He (.int _ _)).after pb).eqv e2
   | _=>exact aw h6
theorem Bo {as:List Expr}{x:Str}{pos:Pos}{pl:Sem Bool}{q dk:Nat}{C f:Addr}{fs:List (Str×V)}{vs:List V}{u:Value}{Z2:ag}(D:Wd K base c) (hP:fb prog w K base c k) (ro:bY A k) (hs:as.all dB=true) (H:aS prog w X μ s.heap base Z) (r:bh X μ s.heap (.own q) u) (e1:Z[q]?=some (.inst C dk)) (e2:Z[dk]?=some (.attrs fs)) (hno:lk x fs=none) (hf:c.mth C x=some f) (args:mM prog w base A X μ s as env pos vs Z2) (h6:c.Φ f (.own q::vs) Z2=some (d,Z')) :
  wpAny (model prog w) A (getMethod u x pl) (fun fx sb=>wpAny (model prog w) A (callWith pos fx.1 fx.2 (backTo pos (starEach as env)) []) (Res prog w base X μ s Z' d) E sb) E s :=
 getMethod_ok D H r e1 e2 hf hno (mo (X:=X) hs D (hP _ _ _ _ _ h6).1 (Bh (args E) fun ws' μ2 sb pb He rb=>⟨⟨μ2,Z2,He⟩,uL pb (tP (f:=.ref f) D hP ro He (.cons (r.stp pb) rb) h6)⟩))
theorem xN (D:Wd K base c) (hP:fb prog w K base c k) (I:fK prog w base c k n) {o:Expr}{x:Str}{as:List Expr}{apos pos:Pos}{m:Nat}(h:Mine.ev c (n+1) ρ Z (.Call (.Attribute o x apos) as [] pos)=some (d,Z')) (hw:ws c.G (m+1) env.scope (.Call (.Attribute o x apos) as [] pos)=true) (ro:bY A k) (R:bE c.G X μ s.heap env ρ) (H:aS prog w X μ s.heap base Z):wpAny (model prog w) A (eval (.Call (.Attribute o x apos) as [] pos) env) (Res prog w base X μ s Z' d) E s:=by
 have hw5:=bF hw;have hw4:=bF hw5.1;have hw3:=z8 hw4.1;refine bA h fun v Z1 h1 h2=>dv h2 fun t h3 h4=>bA h4 fun vs Z2 h5 h6=>?_;refine ut hw3.1 hw3.2.2.1 (ao hw4.2) hw5.2 (on (I.ev E h1 hw3.2.1 ro R H) fun u μ1 sa pa Hd ra pl=>?_);have args:mM prog w base A X μ1 sa as env pos vs Z2:=fun E=>I.evs E h5 hw3.2.2.1 hw3.2.2.2 ro (R.stp pa H.off) Hd;have cL:=fun (q:wpAny (model prog w) A (getMethod u x pl) (fun fx sb=>wpAny (model prog w) A (callWith pos fx.1 fx.2 (backTo pos (starEach as env)) []) (Res prog w base X μ1 sa Z' d) E sb) E sa)=>az q (fun fx sb q=>az q (fun ζ ζ q=>Res.after pa q) fun ζ ζ x=>x) fun ζ ζ x=>x;rcases rF h3 with ⟨q,C,dk,fs,f,rfl,e1,e2,e3,e4,rfl⟩ | ⟨q,l,rfl,e1,rfl⟩ | ⟨l,rfl,rfl⟩
 ·exact cL (Bo D hP ro hw3.2.2.1 Hd ra e1 e2 e3 e4 args h6)
 ·exact cL (wD ro hw3.2.2.1 Hd ra e1 args h6)
 ·exact cL (wz hw3.2.2.1 ra args h6)
theorem xM (D:Wd K base c) (hP:fb prog w K base c k) (I:fK prog w base c k n) {x:Str}{fp:Pos}{as:List Expr}{pos:Pos}{m:Nat}(h:Mine.ev c (n+1) ρ Z (.Call (.Name x fp) as [] pos)=some (d,Z')) (hw:ws c.G (m+1) env.scope (.Call (.Name x fp) as [] pos)=true) (ro:bY A k) (R:bE c.G X μ s.heap env ρ) (H:aS prog w X μ s.heap base Z):wpAny (model prog w) A (eval (.Call (.Name x fp) as [] pos) env) (Res prog w base X μ s Z' d) E s:=by
 have hw:=iY hw;refine bA h fun v Z1 h1 h2=>bA h2 fun vs Z2 h3 h4=>?_
 induction n using OB with
 | zero=>exact aw h1
 | succ n =>
 show wpAny (model prog w) A (eval (.Name x fp) env >>= fun f=>callWith pos f [] (backTo pos (starEach as env)) []) _ _ s;refine ab (on (oy D H R hw.1 h1) fun u μ1 sa pa Hd ra=>?_);have args:mM prog w base A X μ1 sa as env pos vs Z2:=fun E=>I.evs E h3 hw.2.1 hw.2.2 ro (R.stp pa H.off) Hd
 induction v using V.casesOn with
 | raw b =>
  obtain rfl:=ra.view;have bi:∀ b:Value,(∀ a,b≠.ref a)->(eG Z2 b vs).map (·,Z2)=some (d,Z')->wpAny (model prog w) A (callWith pos b [] (backTo pos (starEach as env)) []) (Res prog w base X μ s Z' d) E sa:=fun b hb h=>fJ hw.2.1 hb (Bh (args E) fun ws' μ2 sb pb He rb=>eu h fun d' q1 q2=>C0 q2 (pa.trans pb) (mB ro He rb q1))
  induction u using Value.casesOn with
  | ref a=>exact mo (X:=X) hw.2.1 D (hP _ _ _ _ _ h4).1 (Bh (args E) fun ws' μ2 sb pb He rb=>⟨⟨μ2,Z2,He⟩,uL (pa.trans pb) (tP (f:=.ref a) D hP ro He rb h4)⟩)
  | builtin i=>exact bi _ (fun ζ=>nofun) h4
  | type i=>exact bi _ (fun ζ=>nofun) h4
  | _=>exact aw h4
 | _=>exact aw h4
theorem fS.ns {rr:List V}{D C:Addr}(q:fS prog w base X μ s rr Z' D C s'):∃ m,s'.heap.Ns C m:=by obtain ⟨_,_,_,_,_,_,_,_,_,_,_,_,_,_,_,q⟩:=q;exact q
theorem BL (I:fK prog w base c k n) {elt:Expr}{g:Comprehension}{scope:Scope}{pos:Pos}{m:Nat}(h:Mine.ev c (n+1) ρ Z (.ListComp elt [g] scope pos)=some (d,Z')) (hw:ws c.G (m+1) env.scope (.ListComp elt [g] scope pos)=true) (ro:bY A k) (R:bE c.G X μ s.heap env ρ) (H:aS prog w X μ s.heap base Z):wpAny (model prog w) A (eval (.ListComp elt [g] scope pos) env) (Res prog w base X μ s Z' d) E s:=by
 obtain ⟨t,it,ifs,a⟩:=g;obtain rfl:a=0:=beq_iff_eq.mp (z8 (bF (bF hw).1).1).1;refine bA h fun v Z1 h1 h2=>dv h2 fun l h3 h4=>f8 h4 fun r Z2 h5 h6=>?_;refine aa (eval_ListComp ..) ?_;refine mi (use:=none) I.ev I.ifs ro H R hw h1 h3 h5 fun μ1 sa D C s' pa Hd q=>?_;obtain ⟨m',hm'⟩:=q.ns;refine ⟨m',hm',fun h'' hs=>?_⟩;have:=(nO Hd (c.owned pos.line) q hs).after pa;unfold fQ at this;by_cases ho:c.owned pos.line=true
 ·rw [if_pos ho] at this;exact this.eqv ((if_pos ho).symm.trans h6)
 ·rw [if_neg ho] at this;exact this.eqv ((if_neg ho).symm.trans h6)
theorem BK (I:fK prog w base c k n) {elt:Expr}{g g2:Comprehension}{scope:Scope}{pos:Pos}{m:Nat}(h:Mine.ev c (n+1) ρ Z (.ListComp elt [g,g2] scope pos)=some (d,Z')) (hw:ws c.G (m+1) env.scope (.ListComp elt [g,g2] scope pos)=true) (ro:bY A k) (R:bE c.G X μ s.heap env ρ) (H:aS prog w X μ s.heap base Z):wpAny (model prog w) A (eval (.ListComp elt [g,g2] scope pos) env) (Res prog w base X μ s Z' d) E s:=by
 obtain ⟨t1,it,ifs1,a1⟩:=g;obtain ⟨t2,it2,ifs2,a2⟩:=g2;refine j2 (ve hw) fun x1 p1 x2 p2 Q0 Q1 Q2 Q3 Q4 Q5=>?_;subst Q0;subst Q1;subst Q2;subst Q3;subst Q4;subst Q5;refine bA h fun v Z1 h1 h2=>dv h2 fun l h3 h4=>bR h4 fun hc h4=>bA h4 fun r Z2 h5 h6=>bR h6 fun hr h6=>?_;have hc:=bF hc;refine aa (eval_ListComp ..) ?_;refine mh (use:=none) I.ev ro H R hw h1 h3 (Option.isNone_iff_eq_none.mp hc.1) (bne_iff_ne.mp hc.2) h5 hr fun μ1 sa D C s' pa Hd q=>?_;obtain ⟨m',hm'⟩:=q.ns;exact ⟨m',hm',fun h'' hs=>((nO Hd false q hs).after pa).eqv (aq h6)⟩
theorem tJ (D:Wd K base c) (hP:fb prog w K base c k) (I:fK prog w base c k n):m7 prog w base c k (n+1):=by
 intro X ρ Z Z' e d μ s env A m E h hw ro R H
 induction m using OB with
 | zero=>exact aM hw
 | succ m =>
 induction e using Expr.casesOn with
 | Constant q kk pos=>exact xH H h
 | Name x pos=>exact oy D H R hw h
 | Tuple es kk pos =>
  have hw:=iY hw;exact f8 h fun l Z1 h1 h2=>wpAny_Tuple (Bh (I.evs E h1 hw.2.1 hw.2.2 ro R H) fun vs μ1 sa pa Hd ra=>⟨qh ra h1 hw.1,((Res.tuple Hd ra).after pa).eqv h2⟩)
 | List es pos =>
  have hw:=iY hw;refine f8 h fun l Z1 h1 h2=>wpAny_List (Bh (I.evs E h1 hw.2.1 hw.2.2 ro R H) fun vs μ1 sa pa Hd ra=>⟨qh ra h1 hw.1,?_⟩);by_cases ho:c.owned pos.line=true
  ·exact ((Res.cell Hd ra).after pa).eqv ((if_pos ho).symm.trans h2)
  ·exact ((Res.list Hd ra).after pa).eqv ((if_neg ho).symm.trans h2)
 | Dict ks vs pos =>
  have hw:=bF hw;exact bA h fun fs Z1 h1 h2=>bR h2 fun hc h2=>az (zK I.evk ro hw.1 hw.2 R H h1 hc.1 hc.2) (fun ζ ζ q=>q.eqv (aq h2)) fun ζ ζ x=>x
 | BinOp l op r pos =>
  have hw:=bF hw;exact bA h fun v Z1 h1 h2=>bA h2 fun u Z2 h3 h4=>eu h4 fun t h5 h6=>wpAny_BinOp (on (I.ev E h1 hw.1 ro R H) fun a μ1 sa pa Hd ra=>on (I.ev E h3 hw.2 ro (R.stp pa H.off) Hd) fun b μ2 sb pb He rb=>C0 h6 (pa.trans pb) (qG He (ra.stp pb) rb h5))
 | UnaryOp op x pos =>
  induction op using UnaryOp.casesOn with
  | Not =>
   refine bA h fun v Z1 h1 h2=>?_;refine aB (Ol h2) fun b' Q0 h2=>?_;subst Q0
   exact wpAny_UnaryOp (on (I.ev E h1 hw ro R H) fun u μ1 sa pa Hd ra=>by
    obtain rfl:=ra.view;exact not_value (wpAny_truthy_bool (Res.eqv (aq h2) ⟨μ1,pa,Hd,.bool _⟩)))
  | USub =>
   refine bA h fun v Z1 h1 h2=>?_;refine aB (Ok h2) fun i Q1 h2=>?_;subst Q1
   exact wpAny_UnaryOp (on (I.ev E h1 hw ro R H) fun u μ1 sa pa Hd ra=>by
    refine be (ra.view) fun ζ Q2=>?_;subst Q2;exact PyProof.Rows.neg_int (((Res.tok Hd (.int _ _)).after pa).eqv (aq h2)))
  | _=>exact aw (show none=some (d,Z') from h)
 | BoolOp op es pos=>exact I.evb E h hw ro R H
 | IfExp t a b' pos =>
  refine bA h fun v Z1 h1 h2=>?_;refine aB (MR h2) fun t' Q3 h2=>?_;subst Q3;have hw:=iY hw;refine wpAny_IfExp (N9 (I.tr E h1 hw.1 ro R H) fun μ1 sa pa Hd=>?_)
  induction t' using Oz with
  | true=>exact uL pa (I.ev E h2 hw.2.1 ro (R.stp pa H.off) Hd)
  | false=>exact uL pa (I.ev E h2 hw.2.2 ro (R.stp pa H.off) Hd)
 | Compare l ops rs pos =>
  refine bG (xu h (r:=l)) fun op r Q4 Q5 h=>?_;subst Q4;subst Q5;refine bA h fun v Z1 h1 h2=>bA h2 fun u Z2 h3 h4=>eu h4 fun t h5 h6=>?_;have hw:=iY hw;exact wpAny_Compare1 (xJ I h1 h3 h5 hw.1 (Aa hw.2.2) ro R H fun μ2 sb pb He=>Res.eqv h6 ⟨μ2,pb,He,.bool _⟩) (jE (Aa hw.2.1))
 | Attribute o x pos =>
  have hw:=bF hw
  exact bA h fun v Z1 h1 h2=>u3 hw.1 (on (I.ev E h1 hw.2 ro R H) fun u μ1 sa pa Hd ra=>by
   refine C1 (x5 h2) fun q C dk fs d' Q6 e1 e2 ha e3 e4=>?_;subst Q6;exact C0 e4 pa (rP D Hd ra e1 e2 ha e3))
 | Subscript o i pos =>
  by_cases hs:kC i=false
  ·exact wV I hs h hw ro R H
  ·induction i using Expr.casesOn with
   | Slice lo up sp p=>exact vO I h hw ro R H
   | _=>exact absurd rfl hs
 | Call f as kws pos =>
  induction kws using OA with
  | cons _ _=>induction f using Expr.casesOn<;>exact aw (show none=some (d,Z') from h)
  | nil =>
  induction f using Expr.casesOn with
  | Attribute o x apos=>exact xN D hP I h hw ro R H
  | Name x fp=>exact xM D hP I h hw ro R H
  | _=>exact aw (show none=some (d,Z') from h)
 | ListComp elt gens scope pos =>
  induction gens using OA with
  | nil=>exact aw (show none=some (d,Z') from h)
  | cons g gs =>
   induction gs using OA with
   | nil=>exact BL I h hw ro R H
   | cons g2 gs =>
    induction gs using OA with
    | nil=>exact BK I h hw ro R H
    | cons _ _=>induction g using Comprehension.casesOn;induction g2 using Comprehension.casesOn;exact nomatch (show false=true from hw)
 | _=>exact aw (show none=some (d,Z') from h)
theorem j8 (D:Wd K base c) (hP:fb prog w K base c k):∀ n,fK prog w base c k n
 | 0=>⟨fun ζ h=>(aw h),fun ζ h=>(aw h),fun ζ h=>(aw h),fun ζ h=>(aw h),fun ζ h=>(aw h),fun ζ h=>(aw h),fun ζ h=>(aw h)⟩
 | n+1 =>
  have I:=j8 D hP n
  ⟨tJ D hP I,yn I (tJ D hP I),xq I,xr I.ev I.evk,xt I,uK I,wW I⟩
end
section
variable {prog:Program}{w:World}{K:Frag}{base:Heap}{c:d8}{X X1:Addr->Prop}{μ μ':Mu}{h h':Heap}{s s0 s':Shared}{Z Z' Z'' Z1:ag}{ρ ρb ρ':aL}{env cenv:Env}{A:Around}{E:Value->Shared->Prop}{d e da:V}{k n:Nat}
theorem iE {a b:Addr}{k:Nat}(hk:μ[k]?=some (a,true)) (hi:∀ j,μ[j]?=some (a,true)->j=k) (l:eD (μ.set k (a,false)) b):eD μ b/\b≠a:=by
 refine be (tg l) fun j e=>?_;rw [List.getElem?_set] at e;exact ju e (fun ζ e=>bR e fun ζ e=>aM (congrArg Prod.snd (aq e))) fun hj e=>⟨cE e,fun z=>hj (hi j (z▸e)).symm⟩
theorem uG {x:Str}(H:aS prog w X μ s.heap base Z) (R:bE c.G X μ s.heap env ρ):∃ μ',Stp No μ μ' s s/\aS prog w X μ' s.heap base (l8 ρ Z x).2/\bE c.G X μ' s.heap env (l8 ρ Z x).1:=by
 unfold l8
 induction hx:lk x ρ using Oy with
 | none=>exact ⟨μ,Stp.refl _ _ _,H,R⟩
 | some v =>
  have same:bE c.G X μ s.heap env (st x v ρ):=R.weak fun y d e=>by
   by_cases q:x=y
   ·subst q;rw [cT] at e;refine bp e ?_;exact hx
   ·rw [du q] at e;exact e
  induction v using V.casesOn with
  | own k =>
   simp only [iD]
   induction hk:Z[k]? using Oy with
   | none=>exact ⟨μ,Stp.refl _ _ _,H,same⟩
   | some cl =>
    induction cl using Cell.casesOn with
    | lst l =>
     dsimp only;refine aB (H.cellAt hk (by simp)) fun a hμ Q0=>?_;refine bQ (Q0) fun vs n hl rl=>?_;clear Q0;have hi:∀ j,μ[j]?=some (a,true)->j=k:=fun j e=>H.inj j k a e hμ;have hkl:=(List.getElem?_eq_some_iff.mp hμ).1;have ext:∀ (j:Nat) b t,μ[j]?=some (b,t)->∃ t',(μ.set k (a,false))[j]?=some (b,t'):=fun j b t e=>by
      refine aa (List.getElem?_set ..) ?_;by_cases q:k=j
      ·subst q;rw [hμ] at e;refine dr e ?_;exact ⟨false,by simp [hkl]⟩
      ·exact ⟨t,by refine aa (if_neg q ..) ?_;exact e⟩
     have down:∀ b,eD (μ.set k (a,false)) b->eD μ b:=fun b l=>(iE hμ hi l).1;have hB:∀ b,dY X (μ.set k (a,false)) b->dY X μ b\/s.heap.get? b=none:=fun b q=>.inl (q.imp (down b) id);have mv:∀ {d:V}{v:Value},bh X μ s.heap d v->bh X (μ.set k (a,false)) s.heap d v:=fun r=>r.mono' (fun ζ ζ ζ e=>e) ext hB;have H':aS prog w X (μ.set k (a,false)) s.heap base (Z.set k .dead):=by
      refine ⟨by refine aa (aF ..) (aa (aF ..) ?_);exact H.len,fun j c' e=>?_,fun i j b e1 e2=>?_,H.stays,fun b q=>H.apart b (q.imp (down b) id),fun b q=>H.here b (q.imp (down b) id),fun b l=>H.off b (down b l)⟩
      ·rw [List.getElem?_set] at e;refine ju e (fun ζ e=>bR e fun ζ e=>bp e (.inl rfl)) fun q e=>?_;refine (H.cell j c' e).imp id fun ⟨b,e1,r⟩=>⟨b,(List.getElem?_set ..).trans ((if_neg q).trans e1),r.up (fun ζ ζ ζ e=>e) ext hB fun ζ e=>e⟩
      ·rw [List.getElem?_set] at e1 e2;refine ju e1 (fun ζ e1=>bR e1 fun ζ e1=>aM (congrArg Prod.snd (aq e1))) fun ζ e1=>?_;refine ju e2 (fun ζ e2=>bR e2 fun ζ e2=>aM (congrArg Prod.snd (aq e2))) fun ζ e2=>?_;exact H.inj i j b e1 e2
     have nb:¬dY X (μ.set k (a,false)) a:=fun q=>q.elim (fun l=>(iE hμ hi l).2 rfl) fun x=>H.off a (cE hμ) x;refine ⟨μ.set k (a,false),⟨⟨_,_,rfl⟩,fun ζ ζ ζ ζ e=>e,fun ζ e=>e,ext,fun b l=>.inl (down b l)⟩,H',R.kind,R.glo,R.bui,R.bar,fun y d e=>?_,?_,R.cel,R.one⟩
     ·by_cases q:x=y
      ·subst q;exact R.noG x _ hx
      ·rw [du q] at e;exact R.noG y d e
     ·refine aB (R.ns) fun m h1 h2=>?_;refine ⟨m,h1,fun y d e=>?_⟩;by_cases q:x=y
      ·subst q;rw [cT] at e;refine bp e ?_;have:=h2 x _ hx;have turn:∀ {v:Value},bh X μ s.heap (.own k) v->bh X (μ.set k (a,false)) s.heap (.lst l) v:=fun r=>by
        cases r with
        | own e1=>rw [hμ] at e1;refine dr e1 ?_;exact .lst nb hl (rl.mono' (fun ζ ζ ζ e=>e) ext hB)
       exact this.imp (fun ζ=>turn) (fun ζ e=>e) fun ζ ζ ζ ζ h1 h2=>⟨h1,h2⟩
      ·rw [du q] at e;exact (h2 y d e).imp (fun ζ=>mv) (fun ζ e=>e) fun ζ ζ ζ ζ h1 h2=>⟨h1,h2⟩
    | _=>exact ⟨μ,Stp.refl _ _ _,H,same⟩
  | _=>exact ⟨μ,Stp.refl _ _ _,H,same⟩
theorem rS {xs:List Str}{ρ:aL}{Z:ag}{μ:Mu}(H:aS prog w X μ s.heap base Z) (R:bE c.G X μ s.heap env ρ):∃ μ',Stp No μ μ' s s/\aS prog w X μ' s.heap base (fh ρ Z xs).2/\bE c.G X μ' s.heap env (fh ρ Z xs).1:=by
 induction xs generalizing ρ Z μ with
 | nil=>exact ⟨μ,Stp.refl _ _ _,H,R⟩
 | cons x xs ih=>exact bH (uG (x:=x) H R) fun μ1 pa Hd R1=>bH (ih Hd R1) fun μ2 pb He R2=>⟨μ2,pa.trans pb,He,R2⟩
theorem iw {k tk:Nat}{a:Addr}{cl:Cell}{hJ:Heap}(H:aS prog w X μ s.heap base Z) (ha:μ[k]?=some (a,true)) (hs:Heap.SameBut a s.heap hJ) (ht:(hJ.get? a).isSome=true) (hc:cx prog w X μ hJ a cl) :
  Stp No μ μ s { s with heap:=hJ,toks:=tk }/\aS prog w X μ hJ base (Z.set k cl) :=
 ⟨Stp.of_same (.inl (cE ha)) hs ht,H.turn ha hs ht hc⟩
theorem fk.set {P:Params}{x:Str}{v:Value}{tk:Tok}(hr:eX d=false) (rv:bh X μ h d v) {fs:List (Str×V)}{es:List DictEntry}(r:fk P X μ h fs es):fk P X μ h (Mine.st x d fs) (putL x (PyData.keyHash P x) (.str x tk) v es):=by
 induction r with
 | nil=>exact .cons hr rv .nil
 | @cons y d' v' t fs es q r p ih =>
  by_cases hxy:y=x
  ·subst hxy;simp only [Mine.st,putL,if_true];rw [show (Value.str y t).isStr y=true from beq_self_eq_true _,if_pos rfl];exact .cons hr rv p
  ·have hs:(Value.str y t).isStr x=false:=beq_eq_false_iff_ne.mpr hxy;simp only [Mine.st,putL,hxy,if_false];refine aa (show (Value.str y t).isStr x=false from hs ..) (aa (if_neg (by simp) ..) ?_);exact .cons q r ih
theorem ji {α:Type}{x:Str}{v:α}{fs:List (Str×α)}:(Mine.st x v fs).length<=fs.length+1:=by
 induction fs with
 | nil=>exact aU _
 | cons p r ih =>
  by_cases hxy:p.1=x
  ·exact aa (P:=fun l=>List.length l<=_) (if_pos hxy) (Nat.le_succ _)
  ·exact aa (P:=fun l=>List.length l<=_) (if_neg hxy) (Nat.succ_le_succ ih)
theorem fk.length {P:Params}{fs:List (Str×V)}{es:List DictEntry}(r:fk P X μ h fs es):es.length=fs.length:=fk.rec rfl (fun ζ ζ ζ i=>congrArg Nat.succ i) r
set_option tactic.hygienic true in
theorem wm {R:Result->Shared->Prop}{C x dx:Addr}{ox:Obj}{es:List DictEntry}{n:Nat}{name:Str}{tk:Tok}{v:Value}(XK:K.In s.heap) (I:InstAt s.heap x ox C (some (dictOf es n))) (hd:ox.dict=some dx) (D:s.heap.get? dx=some (dictOf es n)) (hp:plainOver K C=true)
  (ht:takerIn K C name=some none) (hh:hasDictIn K C=true) (hl:(getL name es).isSome=true) (hz:(putL name (PyData.keyHash w.params name) (.str name s.toks) v es).length<=1000)
  (h:∀ h',Heap.SameBut dx s.heap h'->h'.get? dx=some (dictOf (putL name (PyData.keyHash w.params name) (.str name s.toks) v es) (putN name es n))->R (.ok (.ret .none)) { s with heap:=h',toks:=s.toks+1 }) :
  codeAny (model prog w) A (.call (.builtin "object.__setattr__") ⟨[.ref x,.str name tk,v],[]⟩) R s:=by
 refine osa_open XK I hp ht fun b=>?_;refine aB (any_some hh) fun cd hc hd'=>?_;have e:=putName_dict name (PyData.keyHash w.params name) (.str name s.toks) v es n;have D':(s.heap.update dx (Obj.putName name (PyData.keyHash w.params name) (.str name s.toks) v)).get? dx=some (dictOf (putL name (PyData.keyHash w.params name) (.str name s.toks) v es) (putN name es n)):=by
  refine aa (aH (e ..)) ?_;exact Heap.get?_update_self _ D (by refine aa (e ..) ?_;rfl)
 obtain ⟨hx,hcl,hn, -⟩:=I;obtain ⟨oc,odi,oda,osl⟩:=ox;dsimp only at hcl hd;subst hcl hd;refine ab (av (ab (ab (wpAny_loadPart hx (ab ((looks_clsIn XK hc).here ?_))))));refine aa (hd' ..) ?_;refine av (a:=some dx) (ab (av (ab ?_)));unfold nsSet;refine ab (ab (wpAny_askSetting (av (ab (wpAny_mkText (ab (wpAny_loadPart D ?_)))))));have hl':(lookIn name (dictOf es n)).isSome=true:=by refine aa (lookIn_dict ..) ?_;exact hl
 have cc:(!es.toArray.any (·.key.isStr name)&&es.toArray.any (·.refKey))=false:=by
  refine aa (aH (Array.any_toList ..)) (aa (aH (Array.any_toList ..)) ?_);show (!es.any (·.key.isStr name)&&es.any (·.refKey))=false;unfold getL at hl;split at hl
  ·rename_i en he;refine aa (List.any_eq_true.mpr ⟨en,List.mem_of_find?_eq_some he,List.find?_some he⟩ ..) ?_;rfl
  ·split at hl
   ·exact aM hl
   ·rename_i z;rw [Bool.not_eq_true] at z;exact aa (z ..) (aa (Bool.and_false ..) rfl)
 refine aa (show (dictOf es n).data=.dict es.toArray n from rfl ..) ?_;dsimp only;refine aa (aRefKeyMayBeTheName_at ..) (aa (cc ..) ?_);refine wpAny_updatePart D ?_;refine ab (wpAny_lookBehind D' (by exact pastItsLine_dict (by refine aa (aC ..) (aa (sizeLine_eq ..) ?_);exact G4 hz)) ?_);exact av (h _ (Heap.SameBut.update ..) D')
theorem iJ {q dk:Nat}{C:Addr}{x:Str}{u v:Value}{fs:List (Str×V)}(D:Wd K base c) (H:aS prog w X μ s.heap base Z) (r:bh X μ s.heap (.own q) u) (h1:Z[q]?=some (.inst C dk)) (h2:Z[dk]?=some (.attrs fs))
  (h3:c.att C x=true) (h4:fs.length<=400) (hraw:eX d=false) (rv:bh X μ s.heap d v) :
  wpAny (model prog w) A (setAttr u x v) (fun ζ s'=>Stp No μ μ s s'/\aS prog w X μ s'.heap base (Z.set dk (.attrs (st x d fs)))) E s:=by
 refine j2 (oH H r h1 h2) fun a dx es n Q0 hμ hD q hlen I=>?_;subst Q0;have XK:K.In s.heap:=fun a o e=>H.stays a o (D.KX a o e);refine xA (D.att _ _ h3) fun p1 p2 ζ p4 p5 p6=>?_;refine set_plain XK I p6 ?_;have hes:=q.length;have hE:∀ tk,fk w.params X μ s.heap (st x d fs) (putL x (PyData.keyHash w.params x) (.str x tk) v es):=fun tk=>fk.set hraw rv q;have hst:=ji (x:=x) (v:=d) (fs:=fs);refine wm (s:={ s with toks:=s.toks+1 }) XK I rfl hD p4 p5 p2 (by
  have:=q.lk (x:=x)
  induction e:Mine.lk x fs using Oy with
  | none=>rw [e] at this;refine aa (this ..) ?_;rfl
  | some d'=>rw [e] at this;refine aB this fun v' e1 ζ=>?_;clear this;refine aa (e1 ..) ?_;rfl) (by exact aa ((hE _).length ..) (G3 hlen hst)) fun h' hs hd'=>?_
 have ht:(h'.get? dx).isSome=true:=by refine aa (hd' ..) ?_;rfl
 have mv:∀ a o,¬dY X μ a->s.heap.get? a=some o->h'.get? a=some o:=fun a o nb e=>(hs.2 a (by rintro rfl;exact nb (.inl (cE hμ)))).trans e;exact iw H hμ hs ht ⟨_,_,hd',(hE _).mono mv (fc.refl _ _) fun ζ x=>.inl x,by exact Ek h4 hst⟩
theorem rq {a:Addr}{vs:List Value}{n j:Nat}{i:Int}{t:Tok}{v:Value}{Q:Unit->Shared->Prop}(hl:IsL s.heap a vs.toArray n) (hlen:vs.length<=lim) (hj:cy i vs.length=some j)
  (hQ:∀ h' n',IsL h' a (vs.set j v).toArray n'->Heap.SameBut a s.heap h'->Q () { s with heap:=h' }):wpAny (model prog w) A (setItem (.ref a) (.int i t) v) Q E s:=by
 have hl':lim=1000000:=rfl;have hll:=eg hl;have hjl:j<vs.length:=by
  unfold cy at hj;split at hj
  ·refine bR hj fun _hc hj=>?_;refine bp hj ?_;assumption
  ·refine bR hj fun _hc hj=>?_;refine bp hj ?_;rename_i h1 h2;exact GY h1 _hc
 have hx:vs.toArray[j]?=some vs[j]:=by simp [hjl]
 have hfin:=IsL.update hl (·.setIfInBounds j v);have e0:vs.toArray.setIfInBounds j v=(vs.set j v).toArray:=by simp
 rw [e0] at hfin;unfold setItem;refine wpAny_holding ?_;refine ab (wpAny_sequenceKey hll.typeIs (by decide) ?_);refine ab (wpAny_callSpecial?_slot (name:=Str.ofString "__setitem__") hll.typeIs slot_list_setitem
  (wpAny_call_entry slot_list_setitem hll.typeIs entry_list_setitem ?_ (args_list_setitem _ _ _)))
 show wpAny _ _ (Builtin.List.listSubscript? (.int i t) >>= _) _ _ s;have done:wpAny (model prog w) A.in1 (setSeqItemAt a j v >>= fun ζ=>ret .none) (fun cL s'=>∃ r,cL=.done (.ret r)/\wpAny (model prog w) A (pure ()) Q E s') E s :=
  ab (wpAny_setSeqItemAt hl rfl (av ⟨.none,rfl,av (hQ _ _ hfin (Heap.SameBut.update ..))⟩))
 unfold cy at hj;by_cases h0:0<=i
 ·rw [if_pos h0] at hj;refine bR hj fun _hc hj=>?_;(have q_:=aq hj;clear hj;subst q_);refine ab (wpAny_listSubscript_int (fitsIndex_of h0 (by lia)) ?_);refine be (Int.eq_ofNat_of_zero_le h0) fun q Q0=>?_;subst Q0;show wpAny _ _ ((seqItemAt a q >>= fun r=>pure (r.map (q,·))) >>= _) _ _ s;refine ab (ab (wpAny_seqItemAt hl rfl (av ?_)));have hx':vs.toArray[q]?=some (vs[(q:Int).toNat]):=hx;refine aa (hx' ..) ?_;show wpAny _ _ (setSeqItemAt a q v >>= _) _ _ s;refine ab (wpAny_setSeqItemAt hl rfl ?_)
  first
   | exact ab (av (av ⟨.none,rfl,av (hQ _ _ hfin (Heap.SameBut.update ..))⟩))
   | exact av ⟨.none,rfl,av (hQ _ _ hfin (Heap.SameBut.update ..))⟩
 ·rw [if_neg h0] at hj;refine bR hj fun h1 hj=>?_;(have q_:=aq hj;clear hj;subst q_);refine ab (wpAny_listSubscript_int (fitsIndex_neg (Ej hjl) (by lia)) ?_);have hidx:=seqIndex_neg (n:=vs.toArray.size) (k:=i) (Ej hjl) (by exact aa (aC ..) (By h1));obtain ⟨q,rfl⟩:∃ q:Nat,i=Int.negSucc q:=by
   induction i using Int.casesOn with
   | ofNat n=>exact absurd (Int.natCast_nonneg n) h0
   | negSucc n=>exact ⟨n,rfl⟩
  show wpAny _ _ ((Builtin.List.listItems (.ref a) >>= fun xs=>pure ((seqIndex? (Int.negSucc q) xs.size).bind fun i=>xs[i]?.map (i,·))) >>= _) _ _ s;refine ab (ab (listItems_at hl rfl (av ?_)));refine aa (hidx ..) ?_;have hx':vs.toArray[((Int.negSucc q)+(vs.toArray.size:Int)).toNat]?=some (vs[((Int.negSucc q)+(vs.length:Int)).toNat]):=by refine aa (aC ..) ?_;exact hx
  simp only [Option.bind_some,hx',Option.map_some];have e1:((Int.negSucc q)+(vs.toArray.size:Int)).toNat=((Int.negSucc q)+(vs.length:Int)).toNat:=by exact aa (aC ..) rfl
  refine aa (e1 ..) ?_;show wpAny _ _ (setSeqItemAt a _ v >>= _) _ _ s;refine ab (wpAny_setSeqItemAt hl rfl ?_)
  first
   | exact ab (av (av ⟨.none,rfl,av (hQ _ _ hfin (Heap.SameBut.update ..))⟩))
   | exact av ⟨.none,rfl,av (hQ _ _ hfin (Heap.SameBut.update ..))⟩
theorem ka.keys {fs:List (Str×V)}{kvs:List (Str×Value)}(r:ka X μ h fs kvs):kvs.map (·.1)=fs.map (·.1):=ka.rec rfl (fun ζ ζ i=>congrArg (List.cons _) i) r
theorem ka.same {x:Str}{v:Value}{fs:List (Str×V)}{kvs:List (Str×Value)}(r:ka X μ h fs kvs) (hn:x∉fs.map (·.1)):kvs.map (fun kv=>if kv.1=x then (kv.1,v) else kv)=kvs/\kvs.any (fun kv=>decide (kv.1=x))=false:=by
 induction r with
 | nil=>exact ⟨rfl,rfl⟩
 | @cons y _ _ _ _ _ p ih =>
  refine bl (ih fun z=>hn (.tail _ z)) fun q1 q2=>?_;have hyx:¬y=x:=fun z=>hn (z▸.head _);exact ⟨by simp [q1,hyx],by simp [q2,hyx]⟩
theorem ka.set {x:Str}{v:Value}(rv:bh X μ h d v) {fs:List (Str×V)}{kvs:List (Str×Value)}(r:ka X μ h fs kvs) (hn:(fs.map (·.1)).Nodup):ka X μ h (Mine.st x d fs) (stored kvs x v):=by
 induction r with
 | nil=>exact .cons rv .nil
 | @cons y d' v' fs es r p ih =>
  have hn:=List.nodup_cons.mp hn;by_cases hxy:y=x
  ·subst hxy;refine bl (p.same (v:=v) hn.1) fun q1 ζ=>?_;have:stored ((y,v')::es) y v=(y,v)::es:=by
    unfold stored;simp [q1]
   refine aa (this ..) ?_;exact aa (P:=fun l=>ka X μ h l _) (if_pos rfl) (.cons rv p)
  ·have:stored ((y,v')::es) x v=(y,v')::stored es x v:=by
    unfold stored;by_cases ha:(es.any fun kv=>decide (kv.1=x))=true
    ·simp [hxy,ha]
    ·simp [hxy,ha]
   refine aa (this ..) ?_;exact aa (P:=fun l=>ka X μ h l _) (if_neg hxy) (.cons r (ih hn.2))
noncomputable def yL (Z:ag) (v j:V):V->Option ag
 | .own k=>(match Z[k]?,j with
   | some (.lst l),.int j=>if l.length<=lim then (cy j l.length).map fun q=>Z.set k (.lst (l.set q v)) else none
   | some (.sdct fs),.str x=>if fs.length<=400 then some (Z.set k (.sdct (st x v fs))) else none
   | some (.idct q),.int _=>if q<=lim then some (Z.set k (.idct (q+1))) else none
   | _,_=>none)
 | _=>none
set_option tactic.hygienic true in
theorem rp {j o:V}{u v i:Value}(H:aS prog w X μ s.heap base Z) (ro:bh X μ s.heap o u) (ri:bh X μ s.heap j i) (rv:bh X μ s.heap d v) (h:yL Z d j o=some Z') :
  wpAny (model prog w) A (setItem u i v) (fun ζ s'=>Stp No μ μ s s'/\aS prog w X μ s'.heap base Z') E s:=by
 have hl':lim=1000000:=rfl;have hsl:=sizeLine_eq;unfold yL at h;split at h
 ·rename_i q;split at h
  ·rename_i l z e1;refine bR h fun hl h=>?_;refine eu h fun p h1 h2=>?_;clear h;subst h2;obtain ⟨a,rfl,hμ,vs,n,hla,rl⟩:=H.ownAt ro e1 (by simp);have hlen:=rl.length
   cases ri
   refine rq hla (Eo hl hlen) (by exact aa (hlen ..) (h1)) fun h' n' hla' hs=>?_;have mv:∀ b o,¬dY X μ b->s.heap.get? b=some o->h'.get? b=some o:=fun b o nb e=>(hs.2 b (by rintro rfl;exact nb (.inl (cE hμ)))).trans e;exact iw (tk:=s.toks) H hμ hs (by refine aa (hla' ..) ?_;rfl) ⟨_,_,hla',(rl.set rv).mono mv (fc.refl _ _) fun ζ x=>.inl x⟩
  ·rename_i fs x e1;refine bR h fun hl h=>?_;refine bp h ?_;obtain ⟨a,rfl,hμ,kvs,hd,pr,_⟩:=H.ownAt ro e1 (by simp);have hk:=pr.keys;have hnd:(kvs.map (·.1)).Nodup:=by refine rU (hd) fun ζ ζ ζ ζ ζ ζ ζ ζ q=>?_;clear hd;exact q
   have hlen:kvs.length=fs.length:=by have:=congrArg List.length hk;simpa using this
   cases ri
   refine wpAny_setItem_pairs (knd:=strKind prog w) (strKind_is prog w x _) hd (fun h' hd' hs=>?_) (GX hsl hl hlen);have mv:∀ b o,¬dY X μ b->s.heap.get? b=some o->h'.get? b=some o:=fun b o nb e=>(hs.2 b (by rintro rfl;exact nb (.inl (cE hμ)))).trans e;exact iw H hμ hs (by refine cp (hd') fun o ζ ζ e ζ=>?_;clear hd';refine aa (e ..) ?_;rfl) ⟨_,hd',(pr.set rv (by exact aa (aH (hk ..)) (hnd))).mono mv (fc.refl _ _) fun ζ x=>.inl x,by have:=ji (x:=x) (v:=d) (fs:=fs);exact Ek hl this⟩
  ·rename_i qn z e1;refine bR h fun hl h=>?_;refine bp h ?_;obtain ⟨a,rfl,hμ,kvs,hd,hkl⟩:=H.ownAt ro e1 (by simp)
   cases ri
   refine wpAny_setItem_pairs (knd:=intKind prog w) (intKind_is prog w _ _) hd (fun h' hd' hs=>?_) (GV hl' hsl hl hkl);exact iw H hμ hs (by refine cp (hd') fun o ζ ζ e ζ=>?_;clear hd';refine aa (e ..) ?_;rfl) ⟨_,hd',by have:=stored_length_le kvs z v;exact GU hkl this⟩
  ·exact aw h
 ·exact aw h
end
noncomputable def pR:Expr->Bool
 | .SetComp ..=>false
 | .DictComp ..=>false
 | _=>true
noncomputable def wv:Expr->Bool
 | .ListComp ..=>false
 | _=>true
noncomputable def k9 (sc:Scope) (e t:Expr):Bool:=match e with
 | .ListComp _ _ s p=>(match t with
  | .Name x q=>sc.names.lookup x==some .local&&q.line==p.line&&!(s.names.any fun (n,k)=>n==x&&(k==.local||k==.cell))
  | _=>false)
 | _=>false
noncomputable def zp:Expr->Bool
 | .Starred ..=>true
 | _=>false
noncomputable def dw (sc:Scope) (ts:List Expr):List Str:=ts.filterMap fun
  | .Name id pos=>if sc.names.lookup id==some .local&&pos.line==(ts.head?.map (·.pos.line)).getD 0 then some id else none
  | _=>none
noncomputable def sQ (sc : Scope) (t e : Expr) : Option (Option (List Str)) := match t, e with
 | .Tuple ts _ _, .Tuple vs _ _ =>
  if !(ts.length == 2 || ts.length == 3) || vs.length != ts.length then some none
  else if vs.any (fun | .Starred .. => true | _ => false) then some none
  else if (dw sc ts).length != ts.length || (dw sc ts).eraseDups.length != (dw sc ts).length then some none
  else if vs.all (foldedForSure 8) then some none
  else if vs.all (constantsAlone 8) then none
  else if (dw sc ts).Nodup then some (some (dw sc ts)) else none
 | .List .., _ => none
 | _, _ => some none
section
variable {prog:Program}{w:World}{K:Frag}{base:Heap}{c:d8}{X X1:Addr->Prop}{μ μ':Mu}{h h':Heap}{s s0 s':Shared}{Z Z' Z'' Z1:ag}{ρ ρb ρ':aL}{env cenv:Env}{A:Around}{E:Value->Shared->Prop}{d e da:V}{k n:Nat}
theorem jD (hk:env.scope.kind=.function):env.blockKind=.function:=by unfold Env.blockKind;refine aa (hk ..) ?_;rfl
theorem vu {e t:Expr}{line:Nat}(hk:env.scope.kind=.function) (he:pR e=true):swapsWith e (some t) line env=pure (k9 env.scope e t):=by
 induction e using Expr.casesOn with
 | ListComp elt gens s p =>
  induction t using Expr.casesOn with
  | Name x q =>
   delta swapsWith k9;refine aa (jD hk ..) ?_;show (pure _:Sem Bool)=pure _;congr 1
  | _=>rfl
 | SetComp _ _ _ _=>exact aM he
 | DictComp _ _ _ _ _=>exact aM he
 | _=>rfl
theorem q9 {e:Expr}{line:Nat}(he:pR e=true) (hl:wv e=true):swapsWith e none line env=pure false:=by
 induction e using Expr.casesOn with
 | ListComp _ _ _ _=>exact aM hl
 | SetComp _ _ _ _=>exact aM he
 | DictComp _ _ _ _ _=>exact aM he
 | _=>rfl
theorem gW (hk:env.scope.kind=.function):interactive env=false:=by unfold interactive;refine aa (hk ..) ?_;rfl
theorem vv {t e : Expr} {r : Option (List Str)} (hk : env.scope.kind = .function) (h : sQ env.scope t e = some r) : swappedStores [t] e env = pure r := by
 induction t using Expr.casesOn with
 | Tuple ts kk p =>
  induction e using Expr.casesOn with
  | Tuple vs kk' p' =>
   unfold sQ at h;delta swappedStores;dsimp only at h ⊢;refine aa (jD hk ..) ?_;simp only [bne_self_eq_false, Bool.or_false];split at h
   ·rename_i q;refine bp h ?_;simp only [q, if_true]
   ·rename_i q;refine aa (if_neg q ..) ?_;split at h
    ·rename_i q2;refine bp h ?_;exact if_pos q2
    ·rename_i q2;refine (if_neg q2).trans ?_;split at h
     ·rename_i q3;refine bp h ?_;exact if_pos q3
     ·rename_i q3;refine (if_neg q3).trans ?_;split at h
      ·rename_i q4;refine bp h ?_;exact if_pos q4
      ·rename_i q4;refine (if_neg q4).trans ?_;split at h
       ·exact aw h
       ·rename_i q5;refine (if_neg q5).trans ?_;refine bR h fun _hc h => ?_;refine bp h ?_; rfl
  | _ => refine bp h ?_; rfl
 | List _ _ => induction e using Expr.casesOn <;> exact aw h
 | _ => refine bp h ?_; rfl
theorem mS {W:Addr->Prop}(hWX:∀ a,W a->X a) {Q:Unit->Shared->Prop}{xs:List Str}{l:List V}{vs:List Value}{s:Shared}{ρ:aL}(hW:∀ x∈xs,∀ a,sE env x a->W a) (ho:xs.all (dJ c.G env.scope)=true) (hb:cX xs l ρ=some ρ') (r:aG X μ s.heap l vs) (H:aS prog w X μ s.heap base Z)
  (R:bE c.G X μ s.heap env ρ) (hQ:∀ s',Stp W μ μ s s'->aS prog w X μ s'.heap base Z->bE c.G X μ s'.heap env ρ'->Q () s'):wpAny (model prog w) A (assignInOrder (xs.map fun n=>bindName env n) vs) Q E s:=by
 induction xs generalizing l vs s ρ with
 | nil =>
  induction l using OA with
  | nil=>(have q_:=aq hb;clear hb;subst q_);obtain rfl:=r.view;exact av (hQ s (Stp.refl _ _ _) H R)
  | cons _ _=>exact aw hb
 | cons x xs ih =>
  induction l using OA with
  | nil=>exact aw hb
  | cons d l =>
   replace hb:cX xs l (st x d ρ)=some ρ':=hb;have ho:=bF ho;refine bl (jM ho.1) fun hk hg=>?_;refine bG r.view fun v vs zz r1 rs=>?_;subst zz;show wpAny (model prog w) A (holding _ (bindName env x _) >>= fun ζ=>assignInOrder (xs.map fun n=>bindName env n) _) Q E s;refine ab (wpAny_holding (wpAny_bindName (jg H R hk (hW x (.head _)) hWX hg r1 fun s' p' H' R'=>?_)));exact ih (fun y hy=>hW y (.tail _ hy)) ho.2 hb (rs.stpW p' hWX) H' R' fun s'' p'' H'' R''=>hQ s'' (p'.trans p'') H'' R''
theorem o5 {xs:List Str}{l:List V}(ρ:aL) (h:xs.length=l.length):∃ ρ',cX xs l ρ=some ρ':=by
 induction xs generalizing l ρ with
 | nil =>
  induction l using OA with
  | nil=>exact ⟨ρ,rfl⟩
  | cons _ _=>exact nomatch h
 | cons x xs ih =>
  induction l using OA with
  | nil=>exact nomatch h
  | cons v l=>exact ih (l:=l) _ (Nat.succ.inj h)
theorem io {xs:List Str}{l:List V}{ρ ρ':aL}(h:cX xs l ρ=some ρ') (x:Str) (hx:x∉xs):lk x ρ'=lk x ρ:=by
 induction xs generalizing l ρ with
 | nil =>
  induction l using OA with
  | nil=>exact bp h rfl
  | cons _ _=>exact aw h
 | cons y xs ih =>
  induction l using OA with
  | nil=>exact aw h
  | cons v l=>exact (ih (l:=l) h fun z=>hx (.tail _ z)).trans (du fun (z:y=x)=>hx (by subst z;exact .head _))
theorem mA {xs:List Str}{l:List V}{ρ ρ':aL}(hn:xs.Nodup) (h:cX xs l ρ=some ρ'):∀ x v,(x,v)∈xs.zip l->lk x ρ'=some v:=by
 induction xs generalizing l ρ with
 | nil=>exact nofun
 | cons y xs ih =>
  induction l using OA with
  | nil=>exact aw h
  | cons u l =>
   intro x v hm;have hn:=List.nodup_cons.mp hn;rcases List.mem_cons.mp hm with hm | hm
   ·exact eU (P:=fun x v=>lk x ρ'=some v) hm.symm ((io (l:=l) h y hn.1).trans (cT ..))
   ·exact ih (l:=l) hn.2 h x v hm
theorem qK {xs:List Str}{l:List V}{ρ ρa:aL}(hn:xs.Nodup) (h:cX xs l ρ=some ρa):∃ ρc,cX xs.reverse l.reverse ρ=some ρc/\∀ x d,lk x ρa=some d->lk x ρc=some d:=by
 have hl:=ip h;refine be (o5 (xs:=xs.reverse) (l:=l.reverse) ρ (by simpa using hl)) fun ρc h2=>?_;refine ⟨ρc,h2,fun x d e=>?_⟩;by_cases hx:x∈xs
 ·obtain ⟨i,hi,rfl⟩:=List.mem_iff_getElem.mp hx;have hm:(xs[i],l[i]'(GT hl hi))∈xs.zip l:=by
   rw [List.mem_iff_getElem];exact ⟨i,by simp;exact GS hl hi,by simp⟩
  have e1:=mA hn h _ _ hm;rw [e1] at e;refine bp e ?_;refine mA (List.pairwise_reverse.mpr (hn.imp fun h=>Ne.symm h)) h2 _ _ ?_;have:xs.reverse.zip l.reverse=(xs.zip l).reverse:=by
   unfold List.zip;exact (List.reverse_zipWith hl).symm
  refine aa (this ..) ?_;exact List.mem_reverse.mpr hm
 ·rw [io h x hx] at e;refine aa (io h2 x (by simpa using hx) ..) ?_;exact e
set_option tactic.hygienic true in
theorem gK:∀ {ts:List Expr}{line:Nat},(ts.filterMap fun | .Name id pos=>if env.scope.names.lookup id==some .local&&pos.line==line then some id else none | _=>none).length=ts.length ->
  names ts=some (ts.filterMap fun | .Name id pos=>if env.scope.names.lookup id==some .local&&pos.line==line then some id else none | _=>none)
 | [],_,_=>rfl
 | t::ts,line,h=>by
  have hle:=List.length_filterMap_le (fun | Expr.Name id pos=>if env.scope.names.lookup id==some .local&&pos.line==line then some id else none | _=>none) ts
  induction t using Expr.casesOn with
  | Name x p =>
   rw [List.filterMap_cons] at h ⊢;dsimp only at h ⊢;split at h
   ·rename_i q;split at q
    ·exact gQ q
    ·simp only [aR] at h;omega
   ·rename_i y q;refine bR q fun _hc q=>?_;refine bp q ?_;rename_i q;simp only [aR,Nat.add_right_cancel_iff] at h;have ih:=gK h;exact congrArg (Option.map (x::·)) ih
  | _ =>
   rw [List.filterMap_cons] at h;simp only [aR] at h;omega
end
noncomputable def N8 (G:List (Str×V)) (m:Nat) (sc:Scope):Expr->Bool
 | .Attribute o _ _=>ws G m sc o
 | .Subscript o i _=>!kC i&&ws G m sc o&&ws G m sc i
 | .Name x _=>dJ G sc x
 | .Tuple es _ _=>(match names es with | some xs=>xs.all (dJ G sc) | none=>false)
 | _=>false
section
variable {prog:Program}{w:World}{K:Frag}{base:Heap}{c:d8}{X X1:Addr->Prop}{μ μ':Mu}{h h':Heap}{s s0 s':Shared}{Z Z' Z'' Z1:ag}{ρ ρb ρ':aL}{env cenv:Env}{A:Around}{E:Value->Shared->Prop}{d e da:V}{k n m:Nat}
theorem ot (R:bE c.G X μ h env ρ):∀ a,o9 env a->X a:=fun a q=>by
 rcases q with rfl | ⟨x,k,e⟩
 ·exact R.bar
 ·refine bK (R.cel x (.inl k)) fun a' v h1 ζ h3 ζ=>?_;rw [e] at h1;(have q_:=aq h1;clear h1;subst q_);exact h3
inductive m9 (prog:Program) (w:World) (base:Heap) (c:d8) (X:Addr->Prop) (μ:Mu) (s:Shared) (env:Env) (ρ':aL) (Z':ag) (s':Shared):Prop
 | mk (μ':Mu) (p:Stp (o9 env) μ μ' s s') (H:aS prog w X μ' s'.heap base Z') (R:bE c.G X μ' s'.heap env ρ')
theorem x8 {o i:Expr}{p:Pos}:pn c n ρ Z d (.Subscript o i p)=(ev c n ρ Z o).bind fun (w,Z)=>(ev c n ρ Z i).bind fun (j,Z)=>(yL Z d j w).map fun Z=>(ρ,Z):=by
 show (ev c n ρ Z o).bind _=(ev c n ρ Z o).bind _;congr 1
 funext ⟨v,Z1⟩
 show (ev c n ρ Z1 i).bind _=(ev c n ρ Z1 i).bind _;congr 1
 funext ⟨j,Z2⟩
 induction v using V.casesOn with
 | own k =>
  dsimp only [yL]
  induction e:Z2[k]? using Oy with
  | none=>rfl
  | some cl =>
   induction cl using Cell.casesOn with
   | lst l =>
    induction j using V.casesOn with
    | int i =>
     dsimp only
     split
     ·cases cy i l.length<;>rfl
     ·rfl
    | _=>rfl
   | sdct fs =>
    induction j using V.casesOn with
    | str x =>
     dsimp only
     split<;>rfl
    | _=>rfl
   | idct q =>
    induction j using V.casesOn with
    | int x =>
     dsimp only
     split<;>rfl
    | _=>rfl
   | _=>rfl
 | _=>rfl
set_option tactic.hygienic true in
theorem Dp (D:Wd K base c) (I:fK prog w base c k n) {t:Expr}{v:Value}(hw:N8 c.G m env.scope t=true) (ro:bY A k) (R:bE c.G X μ s.heap env ρ) (H:aS prog w X μ s.heap base Z) (rv:bh X μ s.heap d v) (h:pn c n ρ Z d t=some (ρ',Z')) :
  wpAny (model prog w) A (assign t env v) (fun ζ s'=>m9 prog w base c X μ s env ρ' Z' s') E s:=by
 have hWX:=ot R;have names_case:(fU t).all (dJ c.G env.scope)=true->(b6 t d ρ).map (·,Z)=some (ρ',Z')->wpAny (model prog w) A (assign t env v) (fun ζ s'=>m9 prog w base c X μ s env ρ' Z' s') E s:=fun ht hb=>by
  refine eu hb fun ρa h1 h2=>?_;clear hb;refine eU h2 ?_;exact mw ro.handled H R ht (fun x ζ a sp=>sp.own) hWX rv h1 fun s' p' H' R'=>⟨μ,p',H',R'⟩
 induction t using Expr.casesOn with
 | Attribute o x p =>
  have h:(ev c n ρ Z o).bind (fun (w,Z)=>match w with
   | .own k=>(match Z[k]? with
    | some (.inst C dk)=>(match Z[dk]? with
     | some (.attrs fs)=>if c.att C x&&!eX d&&decide (fs.length<=400) then some (ρ,Z.set dk (.attrs (st x d fs))) else none
     | _=>none)
    | _=>none)
   | _=>none)=some (ρ',Z'):=h
  refine bA h fun ov Z1 h1 h2=>?_;clear h;refine aa (arm_assign_Attribute ..) ?_;refine ab (wpAny_holding (az (I.ev E h1 hw ro R H) (fun u sa hu=>?_) fun ζ ζ x=>x));refine Res.el (hu) fun μ1 pa Hd ra=>?_;clear hu;refine ab (wpAny_standAt (ab (wpAny_holding ?_)))
  induction ov using V.casesOn with
  | own q =>
   dsimp only at h2;split at h2
   ·rename_i C dk e1;split at h2
    ·rename_i fs e2;refine bR h2 fun hc h2=>?_;refine dr h2 ?_;simp only [Bool.and_eq_true,Bool.not_eq_true',decide_eq_true_eq] at hc;refine az (iJ D Hd ra e1 e2 hc.1.1 hc.2 hc.1.2 (rv.stp pa)) (fun ζ sb hq=>?_) fun ζ ζ x=>x;exact wpAny_release ⟨μ1,(pa.trans hq.1).wide fun ζ q=>q.elim,hq.2,(R.stp pa H.off).stp hq.1 Hd.off⟩
    ·exact aw h2
   ·exact aw h2
  | _=>exact aw h2
 | Subscript o i p =>
  rw [x8] at h;refine bA h fun ov Z1 h1 h2=>?_;clear h;refine bA h2 fun iv Z2 h3 h4=>?_;clear h2;refine eu h4 fun Z3 h5 h6=>?_;clear h4;refine eU h6 ?_;have hw:=iY hw;refine aa (arm_assign_Subscript ..) ?_;refine ab (wpAny_holding (az (I.ev E h1 hw.2.1 ro R H) (fun u sa hu=>?_) fun ζ ζ x=>x));refine Res.el (hu) fun μ1 pa Hd ra=>?_;clear hu;refine ab (wpAny_holding (az (I.ev E h3 hw.2.2 ro (R.stp pa H.off) Hd) (fun u sb hu=>?_) fun ζ ζ x=>x));refine Res.el (hu) fun μ2 pb He rb=>?_;clear hu;refine ab (wpAny_standAt (ab (wpAny_holding (az (rp He (ra.stp pb) rb ((rv.stp pa).stp pb) h5) (fun ζ se hq=>?_) fun ζ ζ x=>x))));exact wpAny_release ⟨μ2,((pa.trans pb).trans hq.1).wide fun ζ q=>q.elim,hq.2,((R.stp pa H.off).stp pb Hd.off).stp hq.1 He.off⟩
 | Name x p=>exact names_case (by simpa [fe] using (show dJ c.G env.scope x=true from hw)) h
 | Tuple es kk p =>
  have hw:(match names es with | some xs=>xs.all (dJ c.G env.scope) | none=>false)=true:=hw
  induction hn:names es using Oy with
  | some xs=>rw [hn] at hw;exact names_case (by simpa [fT,hn] using hw) h
  | none=>rw [hn] at hw;exact aM hw
 | _=>exact aM hw
theorem bE.wider (R:bE c.G X μ s.heap env ρ) (p:Stp No μ μ' s s') (off:∀ a,eD μ a->¬X a) (hX:∀ a,X a->X1 a) (hX1:∀ a,X1 a->X a\/s.heap.get? a=none):bE c.G X1 μ' s'.heap env ρ:=by
 have mv:∀ {d:V}{v:Value},bh X μ s.heap d v->bh X1 μ' s'.heap d v:=fun r=>r.mono' (fun a o nb e=>p.keep a o (fun l=>nb (.inl l)) (fun q=>q) e) p.ext.ext fun a q=>q.elim (fun l=>(p.ext.new a l).imp .inl id) fun x=>(hX1 a x).imp .inr id;have ck:∀ a v,X a->s.heap.IsCell a v->s'.heap.IsCell a v:=fun a v x ⟨o,e,q⟩=>⟨o,p.keep a o (fun l=>off a l x) (fun q=>q) e,q⟩;exact R.imp (fun ζ ζ=>mv) (hX _ R.bar) (fun o e=>p.keep _ o (fun l=>off _ l R.bar) (fun q=>q) e) fun ζ a v ζ ζ h h3=>⟨ck a v h3 h,hX a h3⟩
theorem bE.narrow {W:Addr->Prop}(R:bE c.G X1 μ h env ρ) (hX:∀ a,X a->X1 a) (hW:∀ a,X1 a->X a\/W a) (hl:¬W env.locals) (hc:∀ x,(env.kindOf x=some .cell\/env.kindOf x=some .free)->∀ a,env.cells.lookup x=some a->¬W a) (hWX:∀ a,W a->X1 a)
  (hk:∀ a o,¬W a->h.get? a=some o->h'.get? a=some o):bE c.G X μ h' env ρ:=by
 have mv:∀ {d:V}{v:Value},bh X1 μ h d v->bh X μ h' d v:=fun r=>r.mono' (fun a o nb e=>hk a o (fun q=>nb (.inr (hWX a q))) e) (fun ζ ζ b e=>⟨b,e⟩) fun a q=>.inl (q.imp id (hX a));have toX:∀ x a,(env.kindOf x=some .cell\/env.kindOf x=some .free)->env.cells.lookup x=some a->X1 a->X a:=fun x a k e q=>(hW a q).resolve_right (hc x k a e);have ck:∀ x a v,(env.kindOf x=some .cell\/env.kindOf x=some .free)->env.cells.lookup x=some a->h.IsCell a v->h'.IsCell a v:=fun x a v k e ⟨o,e',q⟩=>⟨o,hk a o (hc x k a e) e',q⟩;exact R.imp (fun ζ ζ=>mv) ((hW _ R.bar).resolve_right hl) (fun o e=>hk _ o hl e) fun x a v k e h h3=>⟨ck x a v k e h,toX x a k e h3⟩
theorem vo {r:List V}{Zr:ag}{D C:Addr}{x:Str}{p:Pos}{μ1:Mu}{sa:Shared}(o:Bool) (R:bE c.G X μ s.heap env ρ) (P:Stp No μ μ1 s sa) (H:aS prog w X μ s.heap base Z) (Hd:aS prog w X μ1 sa.heap base Z1) (q:fS prog w base X μ1 sa r Zr D C s')
  (hx:env.kindOf x=some .local) (hG:yh c.G x) {Q:Flow->Shared->Prop}
  (hQ:∀ s'',m9 prog w base c X μ s env (st x (fQ o r Zr).1 ρ) (fQ o r Zr).2 s''->Q .next s'') :
  wpAny (model prog w) A (assignAll (.ref D) ((assignEach [.Name x p] env).map (·.2))) (fun ζ s''=>∃ m,s''.heap.Ns C m/\∀ h',Heap.SameBut C s''.heap h'->Q .next { s'' with heap:=h' }) E s':=by
 refine bH (qA Hd o q) fun μ3 Pb Hf rc=>?_;obtain ⟨_,_,_,_,_,_,_,_,_,_,nC,_,_,_,_,⟨mC,hC⟩⟩:=q;have R1:=R.stp P H.off;have nXC:¬X C:=fun x=>by have:=Hd.here C (.inr x);rw [nC] at this;exact aM this
 have R3:bE c.G (fun a=>X a\/a=C) μ3 s'.heap env ρ:=R1.wider Pb Hd.off (fun ζ x=>.inl x) fun a x=>x.elim .inl fun z=>.inr (by subst z;exact nC);show wpAny (model prog w) A (assign (.Name x p) env (.ref D)) _ _ _;have hsp:∀ a,sE env x a->a=env.locals:=fun a sp=>by
  rcases sp with ⟨_,e⟩ | ⟨k,_⟩
  ·exact e
  ·rw [hx] at k;cases k
 have lC:env.locals≠C:=fun z=>nXC (z▸R.bar);refine wpAny_assign_Name (jg (W:=(·=env.locals)) Hf R3 (.inl hx) hsp (fun a z=>.inl (z▸R.bar)) hG rc fun s'' p'' H'' R''=>?_);refine ⟨mC,hC.at' fun o e=>p''.keep _ o (fun l=>Hf.off _ l (.inr rfl)) (fun z=>lC z.symm) e,fun h' hs=>hQ _ ?_⟩;have keep:∀ a o,¬(a=C)->s''.heap.get? a=some o->h'.get? a=some o:=fun a o ne e=>(hs.2 a ne).trans e;have PP:Stp (o9 env) μ μ3 s s'':=((P.trans Pb).wide fun ζ q=>q.elim).trans (p''.wide fun a z=>.inl z);have nCs:s.heap.get? C=none:=by
  induction e:s.heap.get? C using Oy with
  | none=>rfl
  | some o =>
   refine be (ax.mp (P.there C (by refine aa (e ..) ?_;rfl))) fun o' e'=>?_;rw [nC] at e';exact aw e'
 refine ⟨μ3,⟨?_,fun a o nl nw e=>keep a o (fun z=>by rw [z,nCs] at e;exact aw e) (PP.keep a o nl nw e),fun a z=>?_,PP.ext⟩,?_,?_⟩
 ·obtain ⟨⟨h2,t2,e2⟩,_⟩:=PP;exact ⟨h',t2,by exact aa (e2 ..) rfl⟩
 ·refine be (ax.mp (PP.there a z)) fun o e=>?_;show (h'.get? a).isSome=true;refine aa (keep a o (fun y=>by rw [y,nCs] at z;exact aM z) e ..) ?_;rfl
 ·exact H''.grow2 (fun a x=>.inl x) (fun a o e nx=>keep a o (fun z=>nx (.inr z)) e) fun a x=>by
   refine be (ax.mp (H''.here a (.inr (.inl x)))) fun o e=>?_;refine aa (keep a o (fun z=>nXC (z▸x)) e ..) ?_;rfl
 ·exact R''.narrow (W:=(·=C)) (fun ζ x=>.inl x) (fun ζ x=>x) lC (fun y k a e z=>by
   refine bK (R.cel y k) fun a' v h1 ζ h3 ζ=>?_;rw [e] at h1;(have q_:=aq h1;clear h1;subst q_);exact nXC (z▸h3)) (fun ζ z=>.inr z) keep
end
noncomputable def Dq (G:List (Str×V)) (m:Nat) (sc:Scope) (t e:Expr):Bool :=
 ws G m sc e&&N8 G m sc t&&pR e&&!zp t&&(k9 sc e t||(sQ sc t e).isSome)
section
variable {prog:Program}{w:World}{K:Frag}{base:Heap}{c:d8}{X X1:Addr->Prop}{μ μ':Mu}{h h':Heap}{s s0 s':Shared}{Z Z' Z'' Z1:ag}{ρ ρb ρ':aL}{env cenv:Env}{A:Around}{E:Value->Shared->Prop}{d e da:V}{k n m:Nat}
theorem t7 {sc:Scope}{e t:Expr}{G:Prop}(h:k9 sc e t=true) (k:∀ elt gens s p x q,e=.ListComp elt gens s p->t=.Name x q->sc.names.lookup x=some .local->G):G:=by
 induction e using Expr.casesOn with
 | ListComp elt gens s p =>
  induction t using Expr.casesOn with
  | Name x q=>exact k _ _ _ _ _ _ rfl rfl (beq_iff_eq.mp (iY h).1)
  | _=>exact aM h
 | _=>exact aM h
theorem vw {sc:Scope}{t e:Expr}{xs:List Str}{G:Prop}(h:sQ sc t e=some (some xs)) (k:∀ ts kk p,t=.Tuple ts kk p->(dw sc ts).length=ts.length->(dw sc ts).Nodup->dw sc ts=xs->G):G:=by
 induction t using Expr.casesOn with
 | Tuple ts kk p =>
  induction e using Expr.casesOn with
  | Tuple vs kk' p' =>
   refine ju h (fun ζ h=>aw (aq h)) fun ζ h=>?_;refine ju h (fun ζ h=>aw (aq h)) fun ζ h=>?_;refine ju h (fun ζ h=>aw (aq h)) fun q h=>?_;refine ju h (fun ζ h=>aw (aq h)) fun ζ h=>?_;refine ju h (fun ζ h=>aw h) fun ζ h=>?_;refine bR h fun hnd h=>?_;simp only [Bool.or_eq_true,bne_iff_ne,ne_eq,not_or,Decidable.not_not] at q;exact k _ _ _ rfl q.1 hnd (aq (aq h))
  | _=>exact aw (aq h)
 | List _ _=>induction e using Expr.casesOn<;>exact aw h
 | _=>exact aw (aq h)
theorem rf {ts:List Expr}{kk:Nat}{p:Pos}{xs:List Str}{v:Value}(ro:bY A k) (R:bE c.G X μ s.heap env ρ) (H:aS prog w X μ s.heap base Z) (rv:bh X μ s.heap d v) (hn:names ts=some xs) (hnd:xs.Nodup) (ho:xs.all (dJ c.G env.scope)=true)
  (h:b6 (.Tuple ts kk p) d ρ=some ρ') (st:List (Value->Sem Unit)) :
  wpAny (model prog w) A (assignStores env v (some xs) st) (fun f s'=>f=.next/\m9 prog w base c X μ s env ρ' Z s') E s:=by
 have hWX:=ot R;unfold assignStores;refine mx h (fun x p e1 e2=>?_) fun es k p l ys e1 e2 hn' hb=>?_
 ·exact nomatch e1
 ·subst e2;refine fi (Expr.Tuple.inj e1) fun Q0 ζ ζ=>?_;subst Q0;rw [hn] at hn';(have q_:=aq hn';clear hn';subst q_);refine cM (rv.view) fun a vs nn Q1 nb ht rl=>?_;subst Q1;have hlen:=rl.length;have hbl:=ip hb;refine aB (qK hnd hb) fun ρc h2 h3=>?_;refine ab (wpAny_rule (ab ?_));have e0:xs.length=vs.toArray.size:=by refine aa (aC ..) ?_;exact Eh hlen hbl
  refine aa (e0 ..) ?_;refine wpAny_unpackItems_tuple ro.handled (fE ht) fun h' he=>?_;have hk:∀ a o,s.heap.get? a=some o->h'.get? a=some o:=fun a o e=>he a o (Nat.ne_of_lt (Heap.lt_size e)) e;have p0:Stp No μ μ s { s with heap:=h' }:=Stp.of_keeps (tk:=s.toks) hk;have rl':aG X μ h' l.reverse vs.reverse:=by
   have:∀ {ds:List V}{us:List Value},aG X μ h' ds us->aG X μ h' ds.reverse us.reverse:=by
    intro ds
    induction ds with
    | nil=>intro us r;cases r;exact .nil
    | cons d ds ih =>
     intro us r
     cases r with
     | cons r rs=>refine aa (List.reverse_cons ..) (aa (List.reverse_cons ..) ?_);exact (ih rs).append (.cons r .nil)
   exact this (rl.stp p0)
  refine ab (mS (s:={ s with heap:=h' }) (W:=o9 env) hWX (fun x ζ a sp=>sp.own) (by exact aa (List.all_reverse ..) (ho)) h2 rl' (H.keeps hk) (R.stp p0 H.off) fun s' p' H' R'=>?_);exact av ⟨rfl,μ,(p0.wide fun ζ q=>q.elim).trans p',H',R'.weak h3⟩
theorem qY (D : Wd K base c) (hP : fb prog w K base c k) {elt : Expr} {gens : List Comprehension} {scope : Scope} {p q : Pos} {x : Str} {v : V} (w1 : ws c.G m env.scope (.ListComp elt gens scope p) = true) (ro : bY A k) (R : bE c.G X μ s.heap env ρ) (H : aS prog w X μ s.heap base Z)
  (h1 : ev c n ρ Z (.ListComp elt gens scope p) = some (v, Z')) (hx : env.kindOf x = some .local) (hG : yh c.G x) :
  wpAny (model prog w) A (evalThenUse (.ListComp elt gens scope p) env fun v => assignAll v ((assignEach [.Name x q] env).map (·.2))) (fun ζ s' => m9 prog w base c X μ s env (st x v ρ) Z' s') E s := by
 induction n using OB with
 | zero => exact aw h1
 | succ n =>
 have I' := j8 (prog := prog) (w := w) D hP n
 induction m using OB with
 | zero => exact aM w1
 | succ m =>
 refine aa (arm_evalThenUse_ListComp ..) ?_;refine ab ?_
 match gens with
 | [⟨t1, it, ifs, a⟩] =>
  obtain rfl : a = 0 := beq_iff_eq.mp (z8 (bF (bF w1).1).1).1;have h1 : (Mine.ev c n ρ Z it).bind (fun (v, Z) => (items v).bind fun l =>
   (cz (fun x Z => (b6 t1 x ρ).bind fun ρ' => (tI c n ρ' Z ifs).bind fun (b, Z) => if b then (Mine.ev c n ρ' Z elt).map fun (y, Z) => ([y], Z) else some ([], Z)) l Z).map
    fun (r, Z) => if c.owned p.line then (V.own Z.length, Z ++ [.lst r]) else (V.lst r, Z)) = some (v, Z') := h1
  refine bA h1 fun v0 Z0 g1 g2 => ?_; clear h1;refine dv g2 fun l g3 g4 => ?_; clear g2;refine f8 g4 fun r σ2 g5 g6 => ?_; clear g4;replace g6 : fQ (c.owned p.line) r σ2 = (v, Z') := g6;refine aa (arm_firstIter_cons ..) (aa (show firstAsync [⟨t1, it, ifs, 0⟩] = false from rfl ..) ?_);refine mi I'.ev I'.ifs ro H R w1 g1 g3 g5 fun μ1 sa D C s' pa Hd qq => ?_;exact vo (c.owned p.line) R pa H Hd qq hx hG (Q := fun ζ s'' => wpAny (model prog w) A (pure ()) (fun ζ s' => m9 prog w base c X μ s env (st x v ρ) Z' s') E s'') fun s'' ha => av (by rw [g6] at ha; exact ha)
 | [⟨t1, it, ifs1, a1⟩, ⟨t2, it2, ifs2, a2⟩] =>
  refine j2 (ve w1) fun x1 p1 x2 p2 Q0 Q1 Q2 Q3 Q4 Q5 => ?_; subst Q0; subst Q1; subst Q2; subst Q3; subst Q4; subst Q5;have h1 : (Mine.ev c n ρ Z it).bind (fun (v, Z) => (items v).bind fun l => if (lk x2 ρ).isNone && x1 != x2 then
   (cz (fun x Z => (Mine.ev c n (st x1 x ρ) Z it2).bind fun (v2, Z) => (items v2).bind fun l2 =>
    cz (fun y Z => (Mine.ev c n (st x2 y (st x1 x ρ)) Z elt).map fun (z, Z) => ([z], Z)) l2 Z) l Z).bind fun (r, Z) => if r.length <= lim then some (V.lst r, Z) else none else none) = some (v, Z') := h1
  refine bA h1 fun v0 Z0 g1 g2 => ?_; clear h1;refine dv g2 fun l g3 g4 => ?_; clear g2;dsimp only at g4;refine bR g4 fun hc g4 => ?_;simp only [Bool.and_eq_true, Option.isNone_iff_eq_none, bne_iff_ne, ne_eq] at hc;refine bA g4 fun r σ2 g5 g6 => ?_; clear g4;dsimp only at g6;refine bR g6 fun hr g6 => ?_
  cases g6
  refine aa (arm_firstIter_cons ..) (aa (show firstAsync [⟨Expr.Name x1 p1, it, [], 0⟩, ⟨Expr.Name x2 p2, it2, [], 0⟩] = false from rfl ..) ?_);refine mh I'.ev ro H R w1 g1 g3 hc.1 hc.2 g5 hr fun μ1 sa D C s' pa Hd qq => ?_;exact vo (Z := Z) false R pa H Hd qq hx hG (Q := fun ζ s'' => wpAny (model prog w) A (pure ()) (fun ζ s' => m9 prog w base c X μ s env (st x (V.lst r) ρ) Z' s') E s'') fun s'' ha => av ha
 | [] => exact aw (show none = some (v, Z') from h1)
 | ⟨_, _, _, _⟩ :: ⟨_, _, _, _⟩ :: _ :: _ => exact nomatch (show false = true from w1)
theorem u4 (D:Wd K base c) (hP:fb prog w K base c k) {t e:Expr}{pos:Pos}(hw:Dq c.G m env.scope t e=true) (ro:bY A k) (R:bE c.G X μ s.heap env ρ) (H:aS prog w X μ s.heap base Z)
  (h:(ev c n ρ Z e).bind (fun (v,Z)=>pn c n ρ Z v t)=some (ρ',Z')) :
  wpAny (model prog w) A (exec (.Assign [t] e pos) env) (fun f s'=>f=.next/\m9 prog w base c X μ s env ρ' Z' s') E s:=by
 have I:=j8 (prog:=prog) (w:=w) D hP n;simp only [Dq,Bool.and_eq_true,Bool.not_eq_true',Bool.or_eq_true] at hw;refine bl hw fun Q0 w5=>?_;clear hw;refine bl (Q0) fun Q1 w4=>?_;clear Q0;refine bl (Q1) fun Q2 w3=>?_;clear Q1;obtain ⟨w1,w2⟩:=Q2;refine bA h fun v Z1 h1 h2=>?_;clear h;refine aa (arm_exec_Assign ..) ?_;refine ab (wpAny_standAt ?_);show wpAny _ _ (swapsWith e (some t) pos.line env >>= _) _ _ _;refine aa (vu R.kind w3 ..) ?_;refine ab (av ?_);have he:(assignEach [t] env).map (·.2)=[assign t env]:=by induction t using Expr.casesOn<;>first | rfl | exact cg w4
 induction hs:k9 env.scope e t using Oz with
 | true =>
  refine aa (if_pos rfl ..) ?_;refine t7 hs fun elt gens scope p x q z1 z2 hx=>?_;subst z1;subst z2;have hG:=(jM (show dJ c.G env.scope x=true from w2)).2;have h2:some (st x v ρ,Z1)=some (ρ',Z'):=h2;refine dr h2 ?_;exact ab (az (qY D hP w1 ro R H h1 hx hG) (fun ζ ζ ha=>av (a:=Flow.next) ⟨rfl,ha⟩) fun ζ ζ x=>x)
 | false =>
  refine aa (if_neg (by simp) ..) ?_;rw [hs] at w5;refine be (ax.mp (w5.resolve_left (by simp))) fun r hr=>?_;refine ab (az (I.ev E h1 w1 ro R H) (fun u sa hu=>?_) fun ζ ζ x=>x);refine Res.el (hu) fun μ1 pa Hd ra=>?_;clear hu;have R1:=R.stp pa H.off;refine aa (vv R.kind hr ..) ?_;refine ab (av ?_);have back:∀ (f:Flow) sb,(f=Flow.next/\m9 prog w base c X μ1 sa env ρ' Z' sb)->(f=Flow.next/\m9 prog w base c X μ s env ρ' Z' sb):=fun f sb hq=>by
   obtain ⟨rfl,μ2,pb,He,R2⟩:=hq;exact ⟨rfl,μ2,(pa.wide fun ζ q=>q.elim).trans pb,He,R2⟩
  induction r using Oy with
  | none =>
   show wpAny _ _ (assignAll u _ >>= fun ζ=>(pure Flow.next:Sem Flow)) _ _ _;refine aa (he ..) ?_;refine ab (az (Dp D I w2 ro R1 Hd ra h2) (fun ζ sb hq=>av (a:=Flow.next) (back _ _ ⟨rfl,hq⟩)) fun ζ ζ x=>x)
  | some xs =>
   refine vw hr fun ts kk p z1 q3 hnd z2=>?_;subst z1;subst z2;have hn:names ts=some (dw env.scope ts):=gK (env:=env) q3;have ho:(dw env.scope ts).all (dJ c.G env.scope)=true:=by
    have w2':(match names ts with | some xs=>xs.all (dJ c.G env.scope) | none=>false)=true:=w2;rw [hn] at w2';exact w2'
   have h2':(b6 (.Tuple ts kk p) v ρ).map (·,Z1)=some (ρ',Z'):=h2;refine eu h2' fun ρa h3 h4=>?_;clear h2'
   cases h4
   exact az (rf ro R1 Hd ra hn hnd ho h3 _) back fun ζ ζ x=>x
end
structure FW (prog:Program) (w:World) (A:Around) (X:Addr->Prop) (μ:Mu) (hO:Heap) (I:Addr) (wr:List Addr) (t:Expr) (l:List V) (St:Nat->Heap->Prop):Prop where
 new:∀ b∈wr,hO.get? b=none
 live:∀ j h,St j h->∀ b∈wr,(h.get? b).isSome=true
 frame:∀ j h h',St j h->(∀ b o,(b∈wr\/(¬dY X μ b/\(hO.get? b).isSome=true))->h.get? b=some o->h'.get? b=some o)->St j h'
 step:∀ j d (s:Shared) (E:Value->Shared->Prop) (Q:Value->Shared->Prop),l[j]?=some d->St j s.heap->(∀ a o,¬dY X μ a->hO.get? a=some o->s.heap.get? a=some o) ->
  (∀ v h' tk,St (j+1) h'->(∀ b o,b∉wr->s.heap.get? b=some o->h'.get? b=some o) ->
   (∀ X1 μ1,(∀ a,dY X1 μ1 a->(dY X μ a\/hO.get? a=none)/\(s.heap.get? a).isSome=true)->(∀ (k:Nat) a b,μ[k]?=some (a,b)->∃ b',μ1[k]?=some (a,b'))->bh X1 μ1 h' d v)->Q v { s with heap:=h',toks:=tk }) ->
  wpAny (model prog w) A (pyNext (.ref I)) (fun r sa=>∃ v,r=some v/\wpAny (model prog w) A (letOwnedTupleGo t (.ref I) v) (fun _=>Q v) E sa) E s
 done:∀ (s:Shared) (E:Value->Shared->Prop) (Q:Shared->Prop),St l.length s.heap->(∀ h' tk,(∀ b o,b∉wr->s.heap.get? b=some o->h'.get? b=some o)->Q { s with heap:=h',toks:=tk }) ->
  wpAny (model prog w) A (pyNext (.ref I)) (fun r sa=>r=none/\Q sa) E s
noncomputable def MW (c:d8) (X:Addr->Prop) (μ:Mu) (h:Heap) (env:Env) (ρ:aL):Fl->Flow->Prop
 | .next,f=>f=.next/\bE c.G X μ h env ρ
 | .ret d,f=>∃ v,f=.ret v/\bh X μ h d v
inductive kJ (prog:Program) (w:World) (base:Heap) (c:d8) (X:Addr->Prop) (μ:Mu) (s:Shared) (env:Env) (fl:Fl) (ρ':aL) (Z':ag) (f:Flow) (s':Shared):Prop
 | mk (μ':Mu) (p:Stp (o9 env) μ μ' s s') (H:aS prog w X μ' s'.heap base Z') (F:MW c X μ' s'.heap env ρ' fl f)
section
variable {prog:Program}{w:World}{K:Frag}{base:Heap}{c:d8}{X X1:Addr->Prop}{μ μ':Mu}{h h':Heap}{s s0 sa s':Shared}{Z Z' Z'' Z1:ag}{ρ ρb ρ':aL}{env cenv:Env}{A:Around}{E:Value->Shared->Prop}{d e da:V}{k n m:Nat}
theorem kJ.after {fl:Fl}{f:Flow}(p:Stp (o9 env) μ μ' s sa) (r:kJ prog w base c X μ' sa env fl ρ' Z' f s'):kJ prog w base c X μ s env fl ρ' Z' f s' :=
 let ⟨m,a,b,f⟩:=r;⟨m,p.trans a,b,f⟩
theorem l9 {t:Expr}{b:List Stmt}{I:Addr}{wr:List Addr}{l:List V}{St:Nat->Heap->Prop}{fl:Fl}{g:aL->ag->Option (Fl×aL×ag)}
  (hh:A.handled=none) (ts:(fU t).all (dJ c.G env.scope)=true)
  (hB:∀ (X:Addr->Prop) (μ:Mu) (s:Shared) (ρ:aL) (Z:ag) (fl:Fl) (ρ':aL) (Z':ag) (E:Value->Shared->Prop),g ρ Z=some (fl,ρ',Z')->bE c.G X μ s.heap env ρ->aS prog w X μ s.heap base Z ->
   wpAny (model prog w) A (execs b env) (kJ prog w base c X μ s env fl ρ' Z') E s)
  (W:FW prog w A X μ s.heap I wr t l St) (H:aS prog w X μ s.heap base Z) (R:bE c.G X μ s.heap env ρ) {hJ:Heap}{tk1:Nat}(hk:∀ a o,s.heap.get? a=some o->hJ.get? a=some o) (st:St 0 hJ)
  (hf:iR (fun x ρ Z=>(b6 t x ρ).bind fun ρ=>g ρ Z) l ρ Z=some (fl,ρ',Z')) :
  codeAny (model prog w) A (.forLoop t (.ref I) b [] env) (fun r s'=>∃ f,r=.ok f/\kJ prog w base c X μ s env fl ρ' Z' f s') { s with heap:=hJ,toks:=tk1 }:=by
 let Y:Addr->Prop:=fun a=>X a\/a∈wr
 have YX:∀ a,X a->Y a:=fun ζ x=>.inl x;have XY:∀ a,Y a->X a\/s.heap.get? a=none:=fun a y=>y.imp id (W.new a);have own:∀ a,o9 env a->X a:=ot R;have ownS:∀ a,o9 env a->(s.heap.get? a).isSome=true:=fun a q=>H.here a (.inr (own a q));have nwr:∀ a∈wr,¬o9 env a:=fun a q z=>by have:=ownS a z;rw [W.new a q] at this;exact aM this
 have Pd:Stp (o9 env) μ μ s { s with heap:=hJ,toks:=tk1 }:=Stp.of_keeps hk;have Hd:aS prog w Y μ hJ base Z:=H.grow (fun a o e ζ=>hk a o e) (bX hk) fun a y=>y.imp id fun q=>⟨W.new a q,W.live 0 _ st a q⟩;have R1:bE c.G Y μ hJ env ρ:=R.wider (s':={ s with heap:=hJ,toks:=tk1 }) (Stp.of_keeps hk) H.off YX XY;have treesS:∀ {μ1:Mu}{sa:Shared},Stp (o9 env) μ μ1 s sa->∀ a o,¬dY X μ a->s.heap.get? a=some o->sa.heap.get? a=some o:=fun P a o nb e=>P.keep a o (fun l=>nb (.inl l)) (fun q=>nb (.inr (own a q))) e
 let RR:Result->Shared->Prop:=fun r s'=>∃ f,r=.ok f/\kJ prog w base c X μ s env fl ρ' Z' f s'
 let EE:Value->Shared->Prop:=notedBy (model prog w) A env fun e s'=>RR (.error e) s'
 let Iv:Nat->Shared->Prop:=fun m s'=>∃ (j:Nat) (μ1:Mu) (Z1:ag) (ρa:aL),j<=l.length/\m=l.length - j/\St j s'.heap/\Stp (o9 env) μ μ1 s s'/\aS prog w Y μ1 s'.heap base Z1/\bE c.G Y μ1 s'.heap env ρa /\
  iR (fun x ρ Z=>(b6 t x ρ).bind fun ρ=>g ρ Z) (l.drop j) ρa Z1=some (fl,ρ',Z')
 refine codeAny_forLoop_any (R:=RR) Iv ?_ l.length ⟨0,μ,Z,ρ,Nat.zero_le _,rfl,st,Pd,Hd,R1,hf⟩;intro m;intro s';intro Q0;refine C2 (Q0) fun j μ1 Z1 ρa hj Q1 st' P' H' R' f'=>?_;clear Q0;subst Q1;rcases Nat.lt_or_ge j l.length with hlt | hge
 ·refine az (W.step j l[j] s' EE (fun v sb=>wpAny (model prog w) A (assign t env v) (fun ζ sb=>wpAny (model prog w) A (execs b env) (fun f se=>match f with
      | .next | .cont=>∃ m,m<l.length - j/\Iv m se
      | .brk=>RR (.ok .next) se
      | .ret v=>RR (.ok (.ret v)) se) EE sb) EE sb) (au hlt) st' (treesS P') fun v hU tk stb hka rv=>?_) (fun r sb hr=>?_) fun ζ ζ x=>x
  ·have live2:=W.live _ _ stb;have there:∀ a,(s'.heap.get? a).isSome=true->(hU.get? a).isSome=true:=fun a z=>by
    by_cases q:a∈wr
    ·exact live2 a q
    ·refine be (ax.mp z) fun o e=>?_;refine aa (hka a o q e ..) ?_;rfl
   have Pa:Stp (o9 env) μ μ1 s { s' with heap:=hU,toks:=tk }:=by
    obtain ⟨⟨h3,t3,e3⟩,k3,t3',x3⟩:=P';exact ⟨⟨hU,tk,by exact aa (e3 ..) rfl⟩,fun a o nl nw e=>hka a o (fun q=>by rw [W.new a q] at e;exact aw e) (k3 a o nl nw e),fun a z=>there a (t3' a z),x3⟩
   have qc:Stp (·∈wr) μ1 μ1 s' { s' with heap:=hU,toks:=tk }:=⟨⟨_,_,rfl⟩,fun a o ζ nw e=>hka a o nw e,there,fc.refl _ _⟩;have He:aS prog w Y μ1 hU base Z1:=H'.grow (fun a o e nx=>hka a o (fun z=>nx (.inr z)) e) there fun ζ x=>.inl x;have R2:bE c.G Y μ1 hU env ρa:=R'.stpW qc H'.off (fun a q=>.inr q) (fun q=>nwr _ q (.inl rfl)) fun x k a e q=>by
    refine bK (R.cel x k) fun a' v h1 ζ h3 ζ=>?_;rw [e] at h1;(have q_:=aq h1;clear h1;subst q_);have:=H.here _ (.inr h3);rw [W.new _ q] at this;exact aM this
   have hd:l.drop j=l[j]::l.drop (j+1):=List.drop_eq_getElem_cons hlt;rw [hd] at f';refine aB (Option.bind_eq_some_iff.mp f') fun Q2 g1 g2=>?_;obtain ⟨fl1,ρc,Z2⟩:=Q2;refine dv g1 fun ρd b1 b2=>?_;clear g1;have rv':bh Y μ1 hU l[j] v:=rv Y μ1 (fun a q=>⟨q.elim (fun z=>(P'.ext.new a z).imp .inl id) fun z=>(XY a z).imp .inr id,H'.here a q⟩) P'.ext.ext;refine mw (s:={ s' with heap:=hU,toks:=tk }) (W:=o9 env) hh He R2 ts (fun x ζ a sp=>sp.own) (fun a q=>.inl (own a q)) rv' b1 fun se pc Hf R3=>?_;have Pb:=Pa.trans pc;refine az (hB Y μ1 se ρd Z1 fl1 ρc Z2 _ b2 R3 Hf) (fun f sf hx=>?_) fun ζ ζ x=>x;obtain ⟨μa,pd,Hh,Fb⟩:=hx;have Pe:=Pb.trans pd
   induction fl1 using Fl.casesOn with
   | next =>
    refine bl Fb fun Q3 R4=>?_;clear Fb;subst Q3;refine ⟨l.length - (j+1),by exact Et hlt,j+1,μa,Z2,ρc,hlt,rfl,W.frame _ _ _ stb fun a o q e=>?_,Pe,Hh,R4,g2⟩;have nl:∀ {μ5:Mu}{hV:Heap}{Zb:ag},aS prog w Y μ5 hV base Zb->fc μ μ5 s.heap->¬eD μ5 a:=fun Hi X5 z=>q.elim (fun q=>Hi.off a z (.inr q)) fun q=>(X5.new a z).elim (fun z=>q.1 (.inl z)) fun z=>by rw [z] at q;cases q.2
    have nw:¬o9 env a:=fun z=>q.elim (fun q=>nwr a q z) fun q=>q.1 (.inr (own a z));exact pd.keep a o (nl Hf Pb.ext) nw (pc.keep a o (nl He Pa.ext) nw e)
   | ret d =>
    refine aB Fb fun v' Q4 re=>?_;clear Fb;subst Q4;have g2:some (Fl.ret d,ρc,Z2)=some (fl,ρ',Z'):=g2
    cases g2
    exact ⟨_,rfl,μa,Pe,Hh.drop YX,v',rfl,re.drop YX⟩
  ·refine aB hr fun v Q5 hv=>?_;clear hr;subst Q5;exact hv
 ·obtain rfl:j=l.length:=Nat.le_antisymm hj hge;refine az (W.done s' EE (fun sb=>kJ prog w base c X μ s env fl ρ' Z' .next sb) st' fun hU tk hka=>?_) (fun r sb hr=>?_) fun ζ ζ x=>x
  ·rw [List.drop_length] at f';have f':some (Fl.next,ρa,Z1)=some (fl,ρ',Z'):=f'
   cases f'
   have Pa:Stp (o9 env) μ μ1 s { s' with heap:=hU,toks:=tk }:=by
    obtain ⟨⟨h3,t3,e3⟩,k3,t3',x3⟩:=P';refine ⟨⟨hU,tk,by exact aa (e3 ..) rfl⟩,fun a o nl nw e=>hka a o (fun q=>by rw [W.new a q] at e;exact aw e) (k3 a o nl nw e),fun a z=>?_,x3⟩;refine be (ax.mp (t3' a z)) fun o e=>?_;show (hU.get? a).isSome=true;refine aa (hka a o (fun q=>by rw [W.new a q] at z;exact aM z) e ..) ?_;rfl
   have nX:∀ a,X a->a∉wr:=fun a x q=>by have:=H.here a (.inr x);rw [W.new a q] at this;exact aM this
   have Hx:aS prog w X μ1 hU base Z':=H'.grow2 YX (fun a o e nx=>hka a o (fun z=>nx (.inr z)) e) fun a x=>by
    refine be (ax.mp (H'.here a (.inr (.inl x)))) fun o e=>?_;refine aa (hka a o (nX a x) e ..) ?_;rfl
   refine ⟨μ1,Pa,Hx,rfl,R'.narrow (W:=(·∈wr)) YX (fun ζ y=>y) (fun q=>nwr _ q (.inl rfl)) (fun x k a e q=>?_) (fun ζ q=>.inr q) fun a o nw e=>hka a o nw e⟩;refine bK (R.cel x k) fun a' v h1 ζ h3 ζ=>?_;rw [e] at h1;(have q_:=aq h1;clear h1;subst q_);exact nX _ h3 q
  ·refine bl hr fun Q6 hx=>?_;clear hr;subst Q6;exact wpAny_execs_nil ⟨_,rfl,hx⟩
theorem zw {t:Expr}{I:Addr}{l:List V}{fp:List Addr}{P:Nat->Value->Prop}{St:Nat->Heap->Prop}(wk:sD prog w A X μ h I fp P St l) (nI:h.get? I=none):FW prog w A X μ h I [I] t l St where
 new:=fun b hb=>by cases an.mp hb;exact nI
 live:=fun j h st b hb=>by cases an.mp hb;refine aB (wk.cls j h st) fun o e ζ=>?_;refine aa (e ..) ?_;rfl
 frame:=fun j h h' st hk=>wk.W.frame _ _ _ st fun b hb o e=>hk b o ((wk.fpOk b hb).imp (fun q=>by subst q;exact .head _) id) e
 step:=fun j d s E Q hd st hs hQ=>by
  refine be (List.getElem?_eq_some_iff.mp hd) fun hlt Q0=>?_;subst Q0;refine wk.W.item j s _ _ hlt st fun v h' tk hP sta hk=>⟨v,rfl,?_⟩;refine aB (wk.cls _ _ sta) fun o ho hc=>?_;refine kz (s:={ s with heap:=h',toks:=tk }) ho hc (hQ v h' tk sta hk fun X1 μ1 hb hx=>(wk.item j v _ hP hd).mono' (fun a o nb e=>hk a o (fun q=>by cases an.mp q;rw [nI] at e;exact aw e) (hs a o nb e)) hx fun a q=>(hb a q).1)
 done:=fun s E Q st hQ=>wk.W.done s _ _ st fun h' tk hk=>⟨rfl,hQ h' tk hk⟩
theorem rB {it t:Addr}{i:Nat}{items:Array Value}{x:Value}{Q:Value->Shared->Prop}(hit:s.heap.IsTupleIter it t i) (ht:s.heap.IsTuple t items) (hx:items[i]?=some x)
  (hQ:∀ h',h'.IsTupleIter it t (i+1)->Heap.SameBut it s.heap h'->Q x { s with heap:=h' }):wpAny (model prog w) A (Builtin.SmallTypes.nextOf (.ref it)) Q E s:=by
 refine bH (id hit) fun o ho hc hd=>?_;refine bH ht fun ol hol ζ Q0=>?_;clear ht;refine be (Q0) fun nl hdl=>?_;clear Q0;unfold Builtin.SmallTypes.nextOf;refine ab (wpAny_callSpecial?_slot (name:=Str.ofString "__next__") hit.typeIs F.slot_tuple_iterator_next
  (wpAny_call_entry F.slot_tuple_iterator_next hit.typeIs F.entry_tuple_iterator_next ?_ (F.args_tuple_iterator_next_1 _)))
 show wpAny _ _ (field (.ref it) 0 >>= _) _ _ s;refine ab (wpAny_field ho hd (x:=.ref t) rfl ?_);show wpAny _ _ (if (Value.ref t==Value.none)=true then _ else _) _ _ s;refine aa (if_neg (show ¬((Value.ref t==Value.none)=true) from Bool.false_ne_true) ..) ?_;show wpAny _ _ (field (.ref it) 1 >>= _) _ _ s;refine ab (wpAny_field ho hd (x:=.int i 0) rfl ?_);show wpAny _ _ (seqItems? (.ref t) >>= _) _ _ s;refine ab (wpAny_seqItems hol hdl ?_);simp only [Int.toNat_natCast,hx];refine ab (wpAny_setField ho hd (by simp) (av ⟨x,rfl,av (hQ _ ?_ (Heap.SameBut.update ..))⟩))
 exact ⟨_,Heap.get?_update_self _ ho (Obj.isFreed_of_fields (Obj.data_mapFields hd _)),(Obj.cls_mapFields ..).trans hc,by
  refine aa (Obj.data_mapFields hd ..) ?_;simp [rawInt]⟩
theorem lI {it t:Addr}{i:Nat}{items:Array Value}{Q:Value->Shared->Prop}(hh:A.handled=none) (hit:s.heap.IsTupleIter it t i) (ht:s.heap.IsTuple t items) (hx:items[i]?=none)
  (hE:∀ h' e,Heap.ExtBut it s.heap h'->(∃ o,h'.get? e=some o/\o.cls=.type "StopIteration")->E (.ref e) { s with heap:=h' }):wpAny (model prog w) A (Builtin.SmallTypes.nextOf (.ref it)) Q E s:=by
 refine bH (id hit) fun o ho hc hd=>?_;refine bH ht fun ol hol ζ Q0=>?_;clear ht;refine be (Q0) fun nl hdl=>?_;clear Q0;unfold Builtin.SmallTypes.nextOf;refine ab (wpAny_callSpecial?_slot (name:=Str.ofString "__next__") hit.typeIs F.slot_tuple_iterator_next
  (wpAny_call_entry F.slot_tuple_iterator_next hit.typeIs F.entry_tuple_iterator_next ?_ (F.args_tuple_iterator_next_1 _)))
 show wpAny _ _ (field (.ref it) 0 >>= _) _ _ s;refine ab (wpAny_field ho hd (x:=.ref t) rfl ?_);show wpAny _ _ (if (Value.ref t==Value.none)=true then _ else _) _ _ s;refine aa (if_neg (show ¬((Value.ref t==Value.none)=true) from Bool.false_ne_true) ..) ?_;show wpAny _ _ (field (.ref it) 1 >>= _) _ _ s;refine ab (wpAny_field ho hd (x:=.int i 0) rfl ?_);show wpAny _ _ (seqItems? (.ref t) >>= _) _ _ s;refine ab (wpAny_seqItems hol hdl ?_);simp only [Int.toNat_natCast,hx];refine ab (wpAny_rule (ab (wpAny_setField ho hd (by simp) ?_)));show wpAny _ _ (newExc (.type "StopIteration") [] >>= _) _ _ _;refine ab ?_;simp only [newExc,newTuple];refine ab (wpAny_newObj_type ?_ (by size_fits));refine ab (m:=firstArgMember _ _) (wpAny_of_eq (a:=Value.none) (by first | rfl | (simp only [firstArgMember];rfl)) ?_);refine wpAny_newObj_type ?_ (by size_fits);simp only [raiseNew];refine ab (wpAny_handled ?_)
 first | refine aa (show A.in1.handled=none from hh ..) ?_ | refine aa (hh ..) ?_
 refine ab (av (wpAny_throw ?_));exact hE _ _ (((Heap.SameBut.update ..).extBut.push _).push _) ⟨_,aW _ rfl,rfl⟩
end
structure qQ (z TI TO i1 i2 l1 l2:Addr) (xs ys:Array Value) (f0:Value) (j:Nat) (h:Heap):Prop where
 z:IsZip h z TI TO f0
 TI:IsPair h TI (.ref i1) (.ref i2)
 TO:∃ a b,IsPair h TO a b
 i1:h.IsTupleIter i1 l1 j
 i2:h.IsListIter i2 l2 j
 l1:h.IsTuple l1 xs
 l2:h.IsList l2 ys
section
variable {prog:Program}{w:World}{A:Around}{E:Value->Shared->Prop}{s:Shared}{z TI TO i1 i2 l1 l2:Addr}{xs ys:Array Value}{x y:Value}{j:Nat}
theorem n6 {Q:Value->Shared->Prop}(D:ZipApart z TI TO i1 i2 l1 l2) (S:qQ z TI TO i1 i2 l1 l2 xs ys .none j s.heap) (hx:xs[j]?=some x) (hy:ys[j]?=some y)
  (hQ:∀ h',qQ z TI TO i1 i2 l1 l2 xs ys (rawInt s.heap.objs.size) (j+1) h'->IsPair h' s.heap.objs.size x y ->
   (∀ c o,c≠z->c≠TO->c≠i1->c≠i2->s.heap.get? c=some o->h'.get? c=some o)->Q (.ref s.heap.objs.size) { s with heap:=h' }) :
  wpAny (model prog w) A (Builtin.«zip.__next__» ⟨[.ref z],[]⟩) (fun cL s'=>∃ v,cL=.done (.ret v)/\Q v s') E s:=by
 obtain ⟨hz,hTI,⟨a,b,hTO⟩,h1,h2,hl1,hl2⟩:=S;show wpAny _ _ (field (.ref z) 2 >>= _) _ _ _;refine ab (wpAny_field hz rfl (x:=.bool false) rfl ?_);show wpAny _ _ (field (.ref z) 3 >>= _) _ _ _;refine ab (wpAny_field hz rfl (x:=.ref TI) rfl (ab (wpAny_seqItems hTI rfl ?_)));show wpAny _ _ (Builtin.SmallTypes.ownedTupleIsFree (.ref z) >>= _) _ _ _;unfold Builtin.SmallTypes.ownedTupleIsFree;refine ab (ab (wpAny_field hz rfl (x:=.none) rfl (av ?_)));simp only [if_true];refine ab (wpAny_rule (ab (wpAny_field hz rfl (x:=.ref TO) rfl (ab (wpAny_setField_rec hz (by simp) fun hJ hz1 hs1=>?_)))));replace hz1:IsZip hJ z TI TO .ellipsis:=hz1;simp only [List.zipIdx_cons,List.zipIdx_nil,List.forIn_cons,List.forIn_nil];refine ab (ab (ab (wpAny_onRaise ?_)));show wpAny _ _ (Builtin.SmallTypes.nextOf (.ref i1) >>= _) _ _ _;refine ab (rB (h1.extBut hs1.extBut D.i1z) (hl1.at fun o e=>hs1.extBut _ o D.l1z e) hx fun hU h1a hsa=>av ?_);have hTO2:IsPair hU TO a b:=hsa.extBut _ _ D.TOi1 (hs1.extBut _ _ D.TOz hTO);refine ab (wpAny_seqItems hTO2 rfl (ab (wpAny_updateSeq_pair hTO2 fun hY hTO3 hsb=>?_)));replace hTO3:IsPair hY TO x b:=hTO3;refine ab (wpAny_letGo (av (ab (ab (wpAny_onRaise ?_)))));show wpAny _ _ (Builtin.SmallTypes.nextOf (.ref i2) >>= _) _ _ _;refine ab (wpAny_nextOf_list_item (((h2.extBut hs1.extBut D.i2z).extBut hsa.extBut D.i12.symm).extBut hsb.extBut D.TOi2.symm)
  (((hl2.extBut hs1.extBut D.l2z).extBut hsa.extBut D.l2i1).extBut hsb.extBut D.l2TO) hy fun h₄ h24 hs4=>av ?_)
 have hTO4:IsPair h₄ TO x b:=hs4.extBut _ _ D.TOi2 hTO3;refine ab (wpAny_seqItems hTO4 rfl (ab (wpAny_updateSeq_pair hTO4 fun hV hTO5 hs5=>?_)));replace hTO5:IsPair hV TO x y:=hTO5;refine ab (wpAny_letGo (av (av (ab (wpAny_seqItems hTO5 rfl (ab (wpAny_newTuple ?_)))))));have hsz:hV.objs.size=s.heap.objs.size:=by exact aa (hs5.1 ..) (aa (hs4.1 ..) (aa (hsb.1 ..) (aa (hsa.1 ..) (aa (hs1.1 ..) rfl))))
 have hk5:∀ c o,c≠z->c≠TO->c≠i1->c≠i2->s.heap.get? c=some o->hV.get? c=some o:=fun c o c1 c2 c3 c4 e =>
  hs5.extBut _ _ c2 (hs4.extBut _ _ c4 (hsb.extBut _ _ c2 (hsa.extBut _ _ c3 (hs1.extBut _ _ c1 e))))
 have hz5:IsZip hV z TI TO .ellipsis:=hs5.extBut _ _ D.TOz.symm (hs4.extBut _ _ D.i2z.symm (hsb.extBut _ _ D.TOz.symm (hsa.extBut _ _ D.i1z.symm hz1)));have h1b:hV.IsTupleIter i1 l1 (j+1):=((h1a.extBut hsb.extBut D.TOi1.symm).extBut hs4.extBut D.i12).extBut hs5.extBut D.TOi1.symm;have h25:hV.IsListIter i2 l2 (j+1):=h24.extBut hs5.extBut D.TOi2.symm;show wpAny _ _ (Builtin.SmallTypes.ownedTupleHandOut (.ref z) (.ref hV.objs.size) >>= _) _ _ _;unfold Builtin.SmallTypes.ownedTupleHandOut;have hz6:IsZip (hV.push { cls:=.type "tuple",data:=.seq #[x,y] }) z TI TO .ellipsis:=ak _ hz5;refine ab (ab (wpAny_setField_rec hz6 (by simp) fun h₇ hz7 hs7=>?_));replace hz7:IsZip h₇ z TI TO (rawInt hV.objs.size):=hz7;refine wpAny_setField_rec hz7 (by simp) fun h₈ hz8 hs8=>?_;replace hz8:IsZip h₈ z TI TO (rawInt hV.objs.size):=hz8;have up:∀ c o,c≠z->hV.get? c=some o->h₈.get? c=some o:=fun c o c1 e=>hs8.extBut _ _ c1 (hs7.extBut _ _ c1 (ak _ e));have hzn:hV.objs.size≠z:=Nat.ne_of_gt (Heap.lt_size hz5);have hT8:IsPair h₈ hV.objs.size x y:=hs8.extBut _ _ hzn (hs7.extBut _ _ hzn (aW _ rfl));rw [hsz] at hz8 hT8;refine av ⟨_,rfl,?_⟩;show Q (.ref hV.objs.size) _;refine aa (hsz ..) ?_;have keep:∀ c o,c≠z->c≠TO->c≠i1->c≠i2->s.heap.get? c=some o->h₈.get? c=some o:=fun c o c1 c2 c3 c4 e=>up c o c1 (hk5 c o c1 c2 c3 c4 e);exact hQ h₈ ⟨hz8,keep _ _ D.TIz D.TITO D.TIi1 D.TIi2 hTI,⟨_,_,up _ _ D.TOz hTO5⟩,h1b.at fun o e=>up _ o D.i1z e,h25.at fun o e=>up _ o D.i2z e,hl1.at fun o e=>keep _ o D.l1z D.l1TO D.l1i1 D.l1i2 e,hl2.at fun o e=>keep _ o D.l2z D.l2TO D.l2i1 D.l2i2 e⟩ hT8 keep
theorem pq {Q:Fin->Shared->Prop}(hh:A.handled=none) (D:ZipApart z TI TO i1 i2 l1 l2) (S:qQ z TI TO i1 i2 l1 l2 xs ys .none j s.heap) (hx:xs[j]?=none)
  (hE:∀ h' e,(∀ c o,c≠z->c≠TO->c≠i1->c≠i2->s.heap.get? c=some o->h'.get? c=some o)->(∃ o,h'.get? e=some o/\o.cls=.type "StopIteration")->E (.ref e) { s with heap:=h' }) :
  wpAny (model prog w) A (Builtin.«zip.__next__» ⟨[.ref z],[]⟩) Q E s:=by
 obtain ⟨hz,hTI,⟨a,b,hTO⟩,h1,h2,hl1,hl2⟩:=S;show wpAny _ _ (field (.ref z) 2 >>= _) _ _ _;refine ab (wpAny_field hz rfl (x:=.bool false) rfl ?_);show wpAny _ _ (field (.ref z) 3 >>= _) _ _ _;refine ab (wpAny_field hz rfl (x:=.ref TI) rfl (ab (wpAny_seqItems hTI rfl ?_)));show wpAny _ _ (Builtin.SmallTypes.ownedTupleIsFree (.ref z) >>= _) _ _ _;unfold Builtin.SmallTypes.ownedTupleIsFree;refine ab (ab (wpAny_field hz rfl (x:=.none) rfl (av ?_)));simp only [if_true];refine ab (wpAny_rule (ab (wpAny_field hz rfl (x:=.ref TO) rfl (ab (wpAny_setField_rec hz (by simp) fun hJ hz1 hs1=>?_)))));replace hz1:IsZip hJ z TI TO .ellipsis:=hz1;simp only [List.zipIdx_cons,List.zipIdx_nil,List.forIn_cons,List.forIn_nil];refine ab (ab (ab (wpAny_onRaise ?_)));show wpAny _ _ (Builtin.SmallTypes.nextOf (.ref i1) >>= _) _ _ _;refine ab (lI hh (h1.extBut hs1.extBut D.i1z) (hl1.at fun o e=>hs1.extBut _ o D.l1z e) hx fun hU e hsa he=>?_);refine aB he fun oe hoe hce=>?_;clear he;have hz2:IsZip hU z TI TO .ellipsis:=hsa _ _ D.i1z.symm hz1;have hez:e≠z:=fun x=>by subst x;rw [hz2] at hoe;(have q_:=aq hoe;clear hoe;subst q_);simp at hce
 exact wpAny_setField_rec hz2 (by simp) fun hY ζ hsb=>hE hY e (fun c o c1 ζ c3 ζ x=>hsb.extBut _ _ c1 (hsa _ _ c3 (hs1.extBut _ _ c1 x))) ⟨oe,hsb.extBut _ _ hez hoe,hce⟩
theorem Bp {a b c d e x:Addr}{P:Addr->Prop}(h:x∈[a,b,c,d,e]) (h1:P a) (h2:P b) (h3:P c) (h4:P d) (h5:P e):P x:=by
 rcases List.mem_cons.mp h with rfl | h
 ·exact h1
 rcases List.mem_cons.mp h with rfl | h
 ·exact h2
 rcases List.mem_cons.mp h with rfl | h
 ·exact h3
 rcases List.mem_cons.mp h with rfl | h
 ·exact h4
 ·exact an.mp h▸h5
theorem DX {a b c d e x:Addr}(h:x∉[a,b,c,d,e]):x≠a/\x≠b/\x≠c/\x≠d/\x≠e :=
 ⟨fun q=>h (q▸.head _),fun q=>h (q▸.tail _ (.head _)),fun q=>h (q▸.tail _ (.tail _ (.head _))),fun q=>h (q▸.tail _ (.tail _ (.tail _ (.head _)))),fun q=>h (q▸.tail _ (.tail _ (.tail _ (.tail _ (.head _)))))⟩
theorem BO {X:Addr->Prop}{μ:Mu}{hO:Heap}{ds es:List V}{vs us:List Value}{n1 n2:Nat}{elts:List Expr}{kk:Nat}{pos:Pos}(hh:A.handled=none) (D:ZipApart z TI TO i1 i2 l1 l2) (nz:hO.get? z=none) (nTI:hO.get? TI=none) (nTO:hO.get? TO=none) (n1':hO.get? i1=none) (n2':hO.get? i2=none)
  (b1:¬dY X μ l1) (b2:¬dY X μ l2) (t1:IsT hO l1 vs.toArray n1) (t2:IsL hO l2 us.toArray n2) (r1:aG X μ hO ds vs) (r2:aG X μ hO es us) (hlen:ds.length=es.length) :
  FW prog w A X μ hO z [z,TI,TO,i1,i2] (.Tuple elts kk pos) ((ds.zip es).map fun p=>.tup [p.1,p.2]) (fun j h=>qQ z TI TO i1 i2 l1 l2 vs.toArray us.toArray .none j h) where
 new:=fun b hb=>Bp (P:=fun b=>hO.get? b=none) hb nz nTI nTO n1' n2'
 live:=fun j h S b hb=>by
  obtain ⟨hz,hTI,⟨a,b,hTO⟩,⟨o1,h1,_⟩,⟨o2,h2,_⟩,_⟩:=S;have w:∀ {b o},h.get? b=some o->(h.get? b).isSome=true:=fun e=>e▸rfl;exact Bp (P:=fun b=>(h.get? b).isSome=true) hb (w hz) (w hTI) (w hTO) (w h1) (w h2)
 frame:=fun j h h' S hk=>by
  obtain ⟨hz,hTI,⟨a,b,hTO⟩,h1,h2,hl1,hl2⟩:=S;exact ⟨hk _ _ (.inl (.head _)) hz,hk _ _ (.inl (.tail _ (.head _))) hTI,⟨a,b,hk _ _ (.inl (.tail _ (.tail _ (.head _)))) hTO⟩,h1.at fun o e=>hk _ o (.inl (.tail _ (.tail _ (.tail _ (.head _))))) e,h2.at fun o e=>hk _ o (.inl (.tail _ (.tail _ (.tail _ (.tail _ (.head _)))))) e,
   hl1.at fun o e=>hk _ o (.inr ⟨b1,by refine aa (t1 ..) ?_;rfl⟩) e,hl2.at fun o e=>hk _ o (.inr ⟨b2,by refine aa (t2 ..) ?_;rfl⟩) e⟩
 step:=fun j d s E Q hd S hs hQ=>by
  rw [List.getElem?_map,Option.map_eq_some_iff] at hd;obtain ⟨⟨d1,d2⟩,hd,rfl⟩:=hd;obtain ⟨e1,e2⟩:=List.getElem?_zip_eq_some.mp hd;refine aB (r1.get e1) fun x hx rx=>?_;refine aB (r2.get e2) fun y hy ry=>?_;have hT:s.TypeIs (.ref z) "zip" :=⟨_,S.z,rfl⟩;unfold pyNext;refine ab (wpAny_attempt (wpAny_callSpecial?_slot (name:=Str.ofString "__next__") hT F.slot_zip_next
   (wpAny_call_entry F.slot_zip_next hT F.entry_zip_next (n6 D S (by simpa using hx) (by simpa using hy) fun h' S' hP hk=>av ⟨_,rfl,?_⟩) (F.args_zip_next_1 _))))
  refine wpAny_letOwnedTupleGo_zip S'.z fun hU hz2 hsa=>?_;have zT:∀ c o,c≠z->h'.get? c=some o->hU.get? c=some o:=fun c o q e=>hsa.extBut c o q e;have keep:∀ b o,b∉[z,TI,TO,i1,i2]->s.heap.get? b=some o->hU.get? b=some o:=fun b o hb e=>by
   have hb:=DX hb;exact zT b o hb.1 (hk b o hb.1 hb.2.2.1 hb.2.2.2.1 hb.2.2.2.2 e)
  have nT:s.heap.get? s.heap.objs.size=none:=bP _;have Tz:s.heap.objs.size≠z:=fun q=>by rw [← q] at hT;obtain ⟨o,e,_⟩:=hT;rw [nT] at e;exact aw e
  refine hQ _ hU s.toks ⟨hz2,zT _ _ D.TIz S'.TI,let ⟨a,b,q⟩:=S'.TO;⟨a,b,zT _ _ D.TOz q⟩,S'.i1.at fun o e=>zT _ o D.i1z e,S'.i2.at fun o e=>zT _ o D.i2z e,S'.l1.at fun o e=>zT _ o D.l1z e,S'.l2.at fun o e=>zT _ o D.l2z e⟩ keep fun X1 μ1 hb hx'=>?_;have mv:∀ {d:V}{v:Value},bh X μ hO d v->bh X1 μ1 hU d v:=fun r=>r.mono' (fun a o nb e=>keep a o (fun q=>aw ((Bp (P:=fun b=>hO.get? b=none) q nz nTI nTO n1' n2').symm.trans e)) (hs a o nb e)) hx' fun a q=>(hb a q).1;exact .tup (vs:=[x,y]) (n:=0) (fun q=>by have:=(hb _ q).2;rw [nT] at this;exact aM this) (zT _ _ Tz hP) (.cons (mv rx) (.cons (mv ry) .nil))
 done:=fun s E Q S hQ=>by
  have hT:s.TypeIs (.ref z) "zip" :=⟨_,S.z,rfl⟩;have hl:((ds.zip es).map fun p:V×V=>V.tup [p.1,p.2]).length=vs.length:=by exact aa (ah ..) (aa (List.length_zip ..) (aa (r1.length ..) (aa (aH (hlen ..)) (aa (Nat.min_self ..) rfl))))
  unfold pyNext;refine ab (wpAny_attempt (wpAny_callSpecial?_slot (name:=Str.ofString "__next__") hT F.slot_zip_next
   (wpAny_call_entry F.slot_zip_next hT F.entry_zip_next (pq hh D S (by refine aa (hl ..) ?_;simp) fun h' e hk he=>?_) (F.args_zip_next_1 _))))
  refine aB he fun o ho hc=>?_;refine ab (wpAny_isInstance (T:= "StopIteration") (b:=true) ⟨o,ho,hc⟩ isSubtype_stop (av ⟨rfl,hQ h' s.toks fun b o hb e=>?_⟩));have hb:=DX hb;exact hk b o hb.1 hb.2.2.1 hb.2.2.2.1 hb.2.2.2.2 e
end
noncomputable abbrev yl (h:Heap) (l1:Addr):Heap:=h.push { cls:=.type "tuple_iterator",data:=.fields #[.ref l1,.int 0 0] }
noncomputable abbrev yk (h:Heap) (l1 l2:Addr):Heap:=(yl h l1).push { cls:=.type "list_iterator",data:=.fields #[.ref l2,.int 0 0] }
noncomputable abbrev yj (h:Heap) (l1 l2:Addr):Heap:=(yk h l1 l2).push { cls:=.type "tuple",data:=.seq #[.ref h.objs.size,.ref (yl h l1).objs.size] }
noncomputable abbrev yi (h:Heap) (l1 l2:Addr):Heap:=(yj h l1 l2).push { cls:=.type "tuple",data:=.seq #[.none,.none] }
noncomputable abbrev qU (h:Heap) (l1 l2:Addr):Heap:=(yi h l1 l2).push { cls:=.type "zip",data:=.fields #[.none,.bool false,.bool false,.ref (yk h l1 l2).objs.size,.ref (yj h l1 l2).objs.size] }
theorem uu (l1 l2:Addr) (xs ys:Array Value) :
  Meets (Builtin.«zip.__new__» ⟨[.type "zip",.ref l1,.ref l2],[]⟩) (fun ζ R s=>s.heap.IsTuple l1 xs/\s.heap.IsList l2 ys/\R (.ok (.ret (.ref (yi s.heap l1 l2).objs.size))) { s with heap:=qU s.heap l1 l2 }) :=
 .of_wp fun prog w A R s h=>by
  obtain ⟨hp,g,d,tk,os⟩:=s;refine fi h fun hl1 hl2 h=>?_;have hsub:=sub_zip;have hL1:Heap.IsTuple (Shared.heap ⟨hp,g,d,tk,os⟩) l1 xs:=hl1;have hL2:Heap.IsList (Shared.heap ⟨hp.push { cls:=.type "tuple_iterator",data:=.fields #[.ref l1,.int 0 0] },g,d,tk,os⟩) l2 ys:=Heap.IsList.push hl2 _
  wp_walk using wpAny_pyIter_tuple hL1,wpAny_pyIter_list hL2
  exact ⟨_,rfl,h⟩
section
variable {prog:Program}{w:World}{A:Around}{E:Value->Shared->Prop}{s:Shared}
theorem xL {l1 l2:Addr}{xs ys:Array Value}{Q:Value->Shared->Prop}(hl1:s.heap.IsTuple l1 xs) (hl2:s.heap.IsList l2 ys)
  (h:∀ h',qQ (s.heap.objs.size+4) (s.heap.objs.size+2) (s.heap.objs.size+3) s.heap.objs.size (s.heap.objs.size+1) l1 l2 xs ys .none 0 h'->(∀ c o,s.heap.get? c=some o->h'.get? c=some o)->Q (.ref (s.heap.objs.size+4)) { s with heap:=h' }) :
  wpAny (model prog w) A (call (.type "zip") [.ref l1,.ref l2]) Q E s:=by
 refine callType_new F.called_zip (by decide) (F.typeCall_zip_2 _ _) (F.newCall_zip_2 _ _) (fun obj=>F.args_object_init_3 obj _ _) F.entry_zip_new (uu l1 l2 xs ys) ⟨hl1,hl2,?_⟩;have z1:(yl s.heap l1).objs.size=s.heap.objs.size+1:=Heap.size_push ..;have z2:(yk s.heap l1 l2).objs.size=s.heap.objs.size+2:=by exact aa (Heap.size_push ..) (aa (z1 ..) rfl)
 have z3:(yj s.heap l1 l2).objs.size=s.heap.objs.size+3:=by exact aa (Heap.size_push ..) (aa (z2 ..) rfl)
 have z4:(yi s.heap l1 l2).objs.size=s.heap.objs.size+4:=by exact aa (Heap.size_push ..) (aa (z3 ..) rfl)
 have g5:(qU s.heap l1 l2).get? (yi s.heap l1 l2).objs.size=some _:=aW _ rfl;have g4:(qU s.heap l1 l2).get? (yj s.heap l1 l2).objs.size=some _:=ak _ (aW _ rfl);have g3:(qU s.heap l1 l2).get? (yk s.heap l1 l2).objs.size=some _:=ak _ (ak _ (aW _ rfl));have g2:(qU s.heap l1 l2).get? (yl s.heap l1).objs.size=some _:=ak _ (ak _ (ak _ (aW _ rfl)));have g1:(qU s.heap l1 l2).get? s.heap.objs.size=some _:=ak _ (ak _ (ak _ (ak _ (aW _ rfl))));have kp:∀ c o,s.heap.get? c=some o->(qU s.heap l1 l2).get? c=some o:=fun c o x=>ak _ (ak _ (ak _ (ak _ (ak _ x))));show _/\_;rw [z2,z3,z4] at g5;rw [z1,z2] at g3;rw [z3] at g4;rw [z1] at g2;refine aa (z4 ..) ?_;exact ⟨⟨_,g5,rfl⟩,h _ ⟨g5,g3,⟨_,_,g4⟩,⟨_,g1,rfl,rfl⟩,⟨_,g2,rfl,rfl⟩,hl1.at fun o e=>kp _ o e,hl2.at fun o e=>kp _ o e⟩ kp⟩
end
noncomputable def wR:Expr->Bool
 | .Tuple ..=>true
 | _=>false
noncomputable def t6 (G:List (Str×V)):Nat->Scope->Stmt->Bool
 | 0,_,_=>false
 | m+1,sc,s=>match s with
  | .Expr e _=>ws G m sc e&&pR e&&wv e
  | .Assign ts e _=>(match ts with | [t]=>Dq G m sc t e | _=>false)
  | .Return e _=>(match e with | some e=>ws G m sc e | none=>true)
  | .If t b o _=>ws G m sc t&&b.all (t6 G m sc)&&o.all (t6 G m sc)
  | .For t it b o _=>o.isEmpty&&((iG it).isNone||wR t)&&(fU t).all (dJ G sc)&&dQ it&&ws G m sc it&&b.all (t6 G m sc)
  | .While t b o _=>o.isEmpty&&ws G m sc t&&b.all (t6 G m sc)
  | _=>false
noncomputable def MX (prog:Program) (w:World) (base:Heap) (c:d8) (k n:Nat):Prop:=∀ {X:Addr->Prop}{ρ ρ':aL}{Z Z':ag}{st:Stmt}{fl:Fl}{μ:Mu}{s:Shared}{env:Env}{A:Around}{m:Nat}(E:Value->Shared->Prop),ex c n ρ Z st=some (fl,ρ',Z') ->
 t6 c.G m env.scope st=true->bY A k->bE c.G X μ s.heap env ρ->aS prog w X μ s.heap base Z->wpAny (model prog w) A (exec st env) (kJ prog w base c X μ s env fl ρ' Z') E s
noncomputable def mK (prog:Program) (w:World) (base:Heap) (c:d8) (k n:Nat):Prop:=∀ {X:Addr->Prop}{ρ ρ':aL}{Z Z':ag}{b:List Stmt}{fl:Fl}{μ:Mu}{s:Shared}{env:Env}{A:Around}{m:Nat}(E:Value->Shared->Prop),cB c n ρ Z b=some (fl,ρ',Z') ->
 b.all (t6 c.G m env.scope)=true->bY A k->bE c.G X μ s.heap env ρ->aS prog w X μ s.heap base Z->wpAny (model prog w) A (execs b env) (kJ prog w base c X μ s env fl ρ' Z') E s
theorem uC {it e1 e2:Expr}(h:iG it=some (e1,e2)):∃ fp p,it=.Call (.Name (Str.ofString "zip") fp) [e1,e2] [] p:=by
 induction it using Expr.casesOn with
 | Call f as ks p =>
  induction f using Expr.casesOn with
  | Name x fp =>
   induction as using OA with
   | nil=>exact aw h
   | cons a as =>
   induction as using OA with
   | nil=>exact aw h
   | cons b as =>
   induction as using OA with
   | cons _ _=>exact aw h
   | nil =>
   induction ks using OA with
   | cons _ _=>exact aw h
   | nil=>exact bR h fun q h=>dr h ⟨fp,p,by rw [q]⟩
  | _=>exact aw h
 | _=>exact aw h
section
variable {prog:Program}{w:World}{K:Frag}{base:Heap}{c:d8}{X X1:Addr->Prop}{μ μ':Mu}{h h':Heap}{s s0 sa s':Shared}{Z Z' Z'' Z1:ag}{ρ ρb ρ':aL}{env cenv:Env}{A:Around}{E:Value->Shared->Prop}{d e da:V}{k n m:Nat}
theorem fL {μ:Mu}{s s':Shared}(p:Stp No μ μ' s s'):Stp (o9 env) μ μ' s s':=p.wide fun ζ q=>q.elim
theorem xo (I:MX prog w base c k n) (J:mK prog w base c k n):mK prog w base c k (n+1):=by
 intro X ρ ρ' Z Z' b fl μ s env A m E h hw ro R H
 induction b using OA with
 | nil=>refine sT (show some (Fl.next,ρ,Z)=some (fl,ρ',Z') from h) ?_;exact wpAny_execs_nil ⟨μ,Stp.refl _ _ _,H,rfl,R⟩
 | cons st r =>
  have h:(ex c n (fh ρ Z (c.frz st.pos.line)).1 (fh ρ Z (c.frz st.pos.line)).2 st).bind (fun (fl,ρ,Z)=>match fl with | .next=>cB c n ρ Z r | .ret w=>some (.ret w,ρ,Z))=some (fl,ρ',Z'):=h;refine aB (Option.bind_eq_some_iff.mp h) fun Q0 h1 h2=>?_;obtain ⟨fl1,ρa,Z1⟩:=Q0;rw [List.all_cons,Bool.and_eq_true] at hw;refine bH (rS (s:=s) (xs:=c.frz st.pos.line) H R) fun μ1 pa Hd R1=>?_;refine wpAny_execs_cons (az (I E h1 hw.1 ro R1 Hd) (fun f sa hx=>?_) fun ζ ζ x=>x);obtain ⟨μ2,pb,He,Fa⟩:=hx;have P:=(fL (env:=env) pa).trans pb
  induction fl1 using Fl.casesOn with
  | next =>
   refine bl Fa fun Q1 R2=>?_;clear Fa;subst Q1;exact az (J E h2 hw.2 ro R2 He) (fun f sb hx=>hx.after P) fun ζ ζ x=>x
  | ret d =>
   refine aB Fa fun v Q2 r=>?_;clear Fa;subst Q2;refine sT (show some (Fl.ret d,ρa,Z1)=some (fl,ρ',Z') from h2) ?_;exact ⟨μ2,P,He,v,rfl,r⟩
theorem vg (D:Wd K base c) (hP:fb prog w K base c k) (J:∀ q,q<n->mK prog w base c k q) {t:Expr}{b:List Stmt}{pos:Pos}{fl:Fl}(hw:ws c.G m env.scope t=true) (hb:b.all (t6 c.G m env.scope)=true) (ro:bY A k)
  (R:bE c.G X μ s.heap env ρ) (H:aS prog w X μ s.heap base Z) (h:ex c n ρ Z (.While t b [] pos)=some (fl,ρ',Z')):wpAny (model prog w) A (exec (.While t b [] pos) env) (kJ prog w base c X μ s env fl ρ' Z') E s:=by
 let RR:Result->Shared->Prop:=fun r s'=>match r with | .ok f=>kJ prog w base c X μ s env fl ρ' Z' f s' | .error e=>cameBackBy (model prog w) A env E e s'
 let Iv:Nat->Shared->Prop:=fun q s'=>∃ (μ1:Mu) (Z1:ag) (ρa:aL),q<=n/\Stp (o9 env) μ μ1 s s'/\aS prog w X μ1 s'.heap base Z1/\bE c.G X μ1 s'.heap env ρa/\ex c q ρa Z1 (.While t b [] pos)=some (fl,ρ',Z')
 refine wpAny_While (codeAny_whileLoop (R:=RR) Iv ?_ n ⟨μ,Z,ρ,aU _,Stp.refl _ _ _,H,R,h⟩);intro q;intro s';intro Q0;refine fX (Q0) fun μ1 Z1 ρa hq P H' R' f=>?_;clear Q0
 induction q using OB with
 | zero=>exact aw f
 | succ q =>
  have f:(ev c q ρa Z1 t).bind (fun (v,Z)=>match v with
   | .bool true=>(cB c q ρa Z b).bind fun (fl,ρ,Z)=>(match fl with
    | .next=>ex c q ρ Z (.While t b [] pos)
    | .ret w=>some (.ret w,ρ,Z))
   | .bool false=>some (.next,ρa,Z)
   | _=>none)=some (fl,ρ',Z'):=f
  refine bA f fun v Z2 f1 f2=>?_;clear f
  induction v using V.casesOn with
  | bool v =>
   refine az ((j8 (prog:=prog) (w:=w) D hP q).tr _ f1 hw ro R' H') (fun v' sb hv=>?_) fun ζ ζ x=>x;obtain ⟨rfl,μ2,pb,He⟩:=hv;have Pa:=P.trans (fL pb);have R2:=R'.stp pb H'.off
   induction v' using Oz with
   | false =>
    refine aa (if_neg (by simp) ..) ?_
    cases (show some (Fl.next,ρa,Z2)=some (fl,ρ',Z') from f2)
    exact wpAny_execs_nil ⟨μ2,Pa,He,rfl,R2⟩
   | true =>
    refine aa (if_pos rfl ..) ?_;refine aB (Option.bind_eq_some_iff.mp f2) fun Q1 g1 g2=>?_;obtain ⟨fl1,ρd,Z3⟩:=Q1;refine az (J q hq _ g1 hb ro R2 He) (fun fw se hx=>?_) fun ζ ζ x=>x;obtain ⟨μ3,pc,Hf,Fc⟩:=hx;have Pb:=Pa.trans pc
    induction fl1 using Fl.casesOn with
    | next =>
     refine bl Fc fun Q2 R3=>?_;clear Fc;subst Q2;exact ⟨q,Nat.lt_succ_self _,μ3,Z3,ρd,Nat.le_of_succ_le hq,Pb,Hf,R3,g2⟩
    | ret d =>
     refine aB Fc fun v Q3 r=>?_;clear Fc;subst Q3
     cases (show some (Fl.ret d,ρd,Z3)=some (fl,ρ',Z') from g2)
     exact ⟨μ3,Pb,Hf,v,rfl,r⟩
  | _=>exact aw f2
set_option tactic.hygienic true in
theorem t5 (D:Wd K base c) (hP:fb prog w K base c k) (J:mK prog w base c k n) {elts:List Expr}{kk:Nat}{tp fp p pos:Pos}{e1 e2:Expr}{b:List Stmt}{fl:Fl}{Z2 Z3 Za:ag}{l1 l2:List V}{m':Nat}
  (hw:ws c.G (m+1) env.scope (.Call (.Name (Str.ofString "zip") fp) [e1,e2] [] p)=true) (ht:(fU (.Tuple elts kk tp)).all (dJ c.G env.scope)=true) (hb:b.all (t6 c.G m' env.scope)=true) (ro:bY A k)
  (R:bE c.G X μ s.heap env ρ) (H:aS prog w X μ s.heap base Z) (h1:ev c n ρ Z (.Name (Str.ofString "zip") default)=some (.raw (.type "zip"),Z2)) (h2:ev c n ρ Z2 e1=some (.tup l1,Z3)) (h3:ev c n ρ Z3 e2=some (.lst l2,Za)) (hl:l1.length=l2.length)
  (hf:iR (fun x ρ Z=>(b6 (.Tuple elts kk tp) x ρ).bind fun ρ=>cB c n ρ Z b) ((l1.zip l2).map fun p=>.tup [p.1,p.2]) ρ Za=some (fl,ρ',Z')) :
  wpAny (model prog w) A (exec (.For (.Tuple elts kk tp) (.Call (.Name (Str.ofString "zip") fp) [e1,e2] [] p) b [] pos) env) (kJ prog w base c X μ s env fl ρ' Z') E s:=by
 have I:=j8 (prog:=prog) (w:=w) D hP n
 induction n using OB with
 | zero=>exact aw h1
 | succ n =>
 have hw:=iY hw;have hs2:=bF hw.2.1;have hs3:=(bF hs2.2).1;have hw2:=bF hw.2.2;have hw3:=(bF hw2.2).1;refine wpAny_For ?_ (fun ζ=>rfl);show wpAny (model prog w) A (eval (.Name (Str.ofString "zip") fp) env >>= fun f=>callWith p f [] (backTo p (starEach [e1,e2] env)) []) _ _ s;refine ab (az (oy D H R hw.1 h1) (fun u sa hu=>?_) fun ζ ζ x=>x);refine Res.el (hu) fun μ1 pa Hd ra=>?_;clear hu
 cases ra
 have hs:([e1,e2]:List Expr).all dB=true:=hw.2.1;refine fJ hs (fun ζ=>nofun) (wpAny_items_cons (az (I.ev E h2 hw2.1 ro (R.stp pa H.off) Hd) (fun v1' sb hv=>?_) fun ζ ζ x=>x) (b7 hs2.1));refine Res.el (hv) fun μ2 pb He rb=>?_;clear hv;refine wpAny_items_cons (az (I.ev E h3 hw3 ro ((R.stp pa H.off).stp pb Hd.off) He) (fun v2' se hv=>wpAny_items_nil ?_) fun ζ ζ x=>x) (b7 hs3);refine Res.el (hv) fun μ3 pc Hf rc=>?_;clear hv;have P:=(pa.trans pb).trans pc;have R3:=((R.stp pa H.off).stp pb Hd.off).stp pc He.off;have rb:=rb.stp pc
 cases rb with
 | tup nb2 t2 rl2 =>
 cases rc with
 | lst nb3 t3 rl3 =>
 rename_i a2 vs2 n2 a3 vs3 n3;refine xL (fE t2) (eg t3) fun h' S hk=>wpAny_pyIter_zip S.z ?_;have nf:∀ i,se.heap.get? (se.heap.objs.size+i)=none:=fun i=>by
  induction e:se.heap.get? (se.heap.objs.size+i) using Oy with
  | none=>rfl
  | some o=>exact absurd (Heap.lt_size e) (Nat.not_lt_of_le (aP _ _))
 have W:=BO (prog:=prog) (w:=w) (X:=X) (μ:=μ3) (hO:=se.heap) (elts:=elts) (kk:=kk) (pos:=tp) ro.handled (ktu_apart se.heap.objs.size a2 a3 (Heap.lt_size t2) (Heap.lt_size t3)) (nf 4) (nf 2) (nf 3) (nf 0) (nf 1) nb2 nb3 t2 t3 rl2 rl3 hl;refine codeAny_mono (l9 (g:=fun ρ Z=>cB c (n+1) ρ Z b) ro.handled ht (fun X μ s ρ Z fl ρ' Z' E h R H=>J E h hb ro R H) W Hf R3 (tk1:=se.toks) hk S hf) fun r sf hr=>?_;refine aB hr fun f Q0 hx=>?_;clear hr;subst Q0;exact hx.after (fL P)
set_option tactic.hygienic true in
theorem zE (D:Wd K base c) (hP:fb prog w K base c k) (J:∀ q,q<=n->mK prog w base c k q):MX prog w base c k (n+1):=by
 intro X ρ ρ' Z Z' st fl μ s env A m E h hw ro R H;have I:=j8 (prog:=prog) (w:=w) D hP n;have Jn:mK prog w base c k n:=J n (aU _)
 induction m using OB with
 | zero=>exact aM hw
 | succ m =>
 induction st using Stmt.casesOn with
 | Expr e pos =>
  have hw:(ws c.G m env.scope e&&pR e&&wv e)=true:=hw;simp only [Bool.and_eq_true] at hw;refine f8 (show (ev c n ρ Z e).map (fun (_,Z)=>(Fl.next,ρ,Z))=some (fl,ρ',Z') from h) fun v Z1 h1 h2=>?_
  cases h2
  refine wpAny_Expr_any (az (I.ev E h1 hw.1.1 ro R H) (fun u sa hu=>?_) fun ζ ζ x=>x) (gW R.kind) (q9 hw.1.2 hw.2);refine Res.el (hu) fun μ1 pa Hd ra=>?_;clear hu;exact ⟨μ1,fL pa,Hd,rfl,R.stp pa H.off⟩
 | Assign ts e pos =>
  match ts with
  | [t] =>
   refine bA (show (ev c n ρ Z e).bind (fun (v,Z)=>(pn c n ρ Z v t).map fun (ρ,Z)=>(Fl.next,ρ,Z))=some (fl,ρ',Z') from h) fun v Z1 h1 h2=>?_;refine f8 h2 fun ρc Z2 h3 h4=>?_;clear h2
   cases h4
   refine az (u4 (E:=E) D hP hw ro R H (show (ev c n ρ Z e).bind (fun (v,Z)=>pn c n ρ Z v t)=some (ρ',Z') from Option.bind_eq_some_iff.mpr ⟨_,h1,h3⟩)) (fun f sa hx=>?_) fun ζ ζ x=>x;obtain ⟨rfl,μ1,pa,Hd,R1⟩:=hx;exact ⟨μ1,pa,Hd,rfl,R1⟩
  | []=>exact aM hw
  | _::_::_=>exact aM hw
 | Return e pos =>
  induction e using Oy with
  | none =>
   refine sT (show some (Fl.ret .none,ρ,Z)=some (fl,ρ',Z') from h) ?_;exact wpAny_Return_none ⟨μ,Stp.refl _ _ _,H,_,rfl,.none⟩
  | some e =>
   refine f8 (show (ev c n ρ Z e).map (fun (v,Z)=>(Fl.ret v,ρ,Z))=some (fl,ρ',Z') from h) fun v Z1 h1 h2=>?_
   cases h2
   refine wpAny_Return_some (az (I.ev E h1 hw ro R H) (fun u sa hu=>?_) fun ζ ζ x=>x);refine Res.el (hu) fun μ1 pa Hd ra=>?_;clear hu;exact ⟨μ1,fL pa,Hd,u,rfl,ra⟩
 | If t b o pos =>
  have hw:(ws c.G m env.scope t&&b.all (t6 c.G m env.scope)&&o.all (t6 c.G m env.scope))=true:=hw;simp only [Bool.and_eq_true] at hw;refine bA (show (ev c n ρ Z t).bind (fun (v,Z)=>match v with | .bool true=>cB c n ρ Z b | .bool false=>cB c n ρ Z o | _=>none)=some (fl,ρ',Z') from h) fun v Z1 h1 h2=>?_
  induction v using V.casesOn with
  | bool v =>
   refine wpAny_If (az (I.tr E h1 hw.1.1 ro R H) (fun v' sa hv=>?_) fun ζ ζ x=>x);obtain ⟨rfl,μ1,pa,Hd⟩:=hv
   induction v' using Oz with
   | true=>exact az (Jn E h2 hw.1.2 ro (R.stp pa H.off) Hd) (fun f sb hx=>hx.after (fL pa)) fun ζ ζ x=>x
   | false=>exact az (Jn E h2 hw.2 ro (R.stp pa H.off) Hd) (fun f sb hx=>hx.after (fL pa)) fun ζ ζ x=>x
  | _=>exact aw h2
 | For t it b o pos =>
  have hw:(o.isEmpty&&((iG it).isNone||wR t)&&(fU t).all (dJ c.G env.scope)&&dQ it&&ws c.G m env.scope it&&b.all (t6 c.G m env.scope))=true:=hw;simp only [Bool.and_eq_true,List.isEmpty_iff] at hw;refine bl hw fun Q0 w4=>?_;clear hw;refine bl (Q0) fun Q1 w3=>?_;clear Q0;refine bl (Q1) fun Q2 w2=>?_;clear Q1;obtain ⟨⟨rfl,w0⟩,w1⟩:=Q2;have h:(match iG it with
   | some (e1,e2)=>(ev c n ρ Z (.Name (Str.ofString "zip") default)).bind fun (f,Z)=>(ev c n ρ Z e1).bind fun (v1,Z)=>(ev c n ρ Z e2).bind fun (v2,Z)=>(match f,v1,v2 with
    | .raw (.type "zip"),.tup l1,.lst l2=>if l1.length=l2.length then
      iR (fun x ρ Z=>(b6 t x ρ).bind fun ρ=>cB c n ρ Z b) ((l1.zip l2).map fun p=>.tup [p.1,p.2]) ρ Z else none
    | _,_,_=>none)
   | none=>(ev c n ρ Z it).bind fun (v,Z)=>(items v).bind fun l=>iR (fun x ρ Z=>(b6 t x ρ).bind fun ρ=>cB c n ρ Z b) l ρ Z)=some (fl,ρ',Z'):=h
  induction hz:iG it using Oy with
  | none =>
   rw [hz] at h;refine bA h fun v Z1 h1 h2=>?_;clear h;refine dv h2 fun l h3 h4=>?_;clear h2;refine wpAny_For (az (I.ev E h1 w3 ro R H) (fun u sa hu=>?_) fun ζ ζ x=>x) fun x=>d5 w2;refine Res.el (hu) fun μ1 pa Hd ra=>?_;clear hu;refine oF ro Hd ra h3 fun o fp P St wk hll st=>?_;refine codeAny_mono (l9 (g:=fun ρ Z=>cB c n ρ Z b) ro.handled w1 (fun X μ s ρ Z fl ρ' Z' E h R H=>Jn E h w4 ro R H) (zw wk (bP _)) Hd (R.stp pa H.off) (tk1:=sa.toks) (fun ζ ζ e=>ak _ e) st h4) fun r sf hr=>?_;refine aB hr fun f Q3 hx=>?_;clear hr;subst Q3;exact hx.after (fL pa)
  | some pr =>
   obtain ⟨e1,e2⟩:=pr;rw [hz] at h;refine bA h fun f Z2 h1 q1=>?_;clear h;refine bA q1 fun v1 Z3 h2 q2=>?_;clear q1;refine bA q2 fun v2 Za h3 q3=>?_;clear q2;dsimp only at q3;split at q3
   ·rename_i l1 l2;split at q3
    ·rename_i hl;obtain ⟨fp,p,rfl⟩:∃ fp p,it=.Call (.Name (Str.ofString "zip") fp) [e1,e2] [] p:=by
      exact uC hz
     induction m using OB with
     | zero=>exact aM w3
     | succ m =>
     induction t using Expr.casesOn with
     | Tuple elts kk tp=>exact t5 D hP Jn w3 w1 w4 ro R H h1 h2 h3 hl q3
     | _=>rw [hz] at w0;exact aM w0
    ·exact aw q3
   ·exact aw q3
 | While t b o pos =>
  have hw:(o.isEmpty&&ws c.G m env.scope t&&b.all (t6 c.G m env.scope))=true:=hw;simp only [Bool.and_eq_true,List.isEmpty_iff] at hw;refine bl hw fun Q4 w2=>?_;clear hw;refine bl (Q4) fun Q5 w1=>?_;clear Q4;subst Q5;exact vg D hP (fun q hq=>J q (Nat.lt_succ_iff.mp hq)) w1 w2 ro R H h
 | _=>exact aM hw
theorem vA (D:Wd K base c) (hP:fb prog w K base c k) (n:Nat):mK prog w base c k n:=by
 induction n using Nat.strongRecOn with
 | ind n ih =>
  induction n using OB with
  | zero=>intro X ρ ρ' Z Z' b fl μ s env A m E h;exact aw h
  | succ n =>
   refine xo ?_ (ih n (Nat.lt_succ_self _))
   induction n using OB with
   | zero=>intro X ρ ρ' Z Z' st fl μ s env A m E h;exact aw h
   | succ n=>exact zE D hP fun q hq=>ih q (GO hq)
end
theorem js {xs:List Str}{vs:List Value}(h:xs.length=vs.length):∀ x∈xs,((xs.zip vs).lookup x).isSome=true:=by
 induction xs generalizing vs with
 | nil=>exact nofun
 | cons y xs ih =>
  induction vs using OA with
  | nil=>exact nomatch h
  | cons v vs =>
  intro x hx;refine aa (List.lookup_cons ..) ?_
  induction e:x==y using Oz with
  | true=>rfl
  | false =>
   rcases List.mem_cons.mp hx with rfl | hx
   ·rw [beq_self_eq_true] at e;exact cg e
   ·exact ih (Nat.succ.inj h) x hx
theorem mY {xs:List Str}{vs:List Value}(hn:xs.Nodup) (h:xs.length=vs.length):∀ {f:Str->Option Value},(∀ x∈xs,f x=(xs.zip vs).lookup x)->(xs.filterMap fun n=>(f n).map (n,·))=xs.zip vs:=by
 induction xs generalizing vs with
 | nil=>intro _ _;rfl
 | cons y xs ih =>
  induction vs using OA with
  | nil=>exact nomatch h
  | cons v vs =>
  intro f hf;have h0:f y=some v:=by exact aa (hf y (.head _) ..) (aa (List.zip_cons_cons ..) (aa (List.lookup_cons ..) (aa (beq_self_eq_true ..) rfl)))
  refine aa (List.filterMap_cons ..) (aa (h0 ..) ?_);have hn:=List.nodup_cons.mp hn;refine congrArg (List.cons _) (ih hn.2 (Nat.succ.inj h) fun x hx=>?_);refine aa (hf x (.tail _ hx) ..) (aa (List.zip_cons_cons ..) (aa (List.lookup_cons ..) ?_));have:(x==y)=false:=by simpa using fun e:x=y=>hn.1 (e▸hx)
  exact aa (this ..) rfl
theorem BQ {β:Type}(m:Nat) (l:List Str) (s:β) (f:Str×Value->β->Sem (ForInStep β)):(forIn (l.zip (List.drop m ([]:List Value))) s f:Sem β)=pure s:=by rw [List.drop_nil,List.zip_nil_right];rfl
theorem De {α β:Type}{m m':Sem α}{g:α->Sem β}(h:m=m'):m >>= g=m' >>= g:=h▸rfl
theorem mu {fd:FuncData}{args:List Arg}{vals:List Value}(hp:fd.params=⟨[],args,none,[],[],none,[]⟩) (hd:fd.defaults=.none) (hn:(args.map (·.arg)).Nodup) (hl:args.length=vals.length) :
  bindArgs fd ⟨vals,[]⟩=pure ((args.map (·.arg)).zip vals):=by
 obtain ⟨a1,a2,a3,a4,a5,a6,a7,a8,a9,a10,a11,a12,a13,a14,a15⟩:=fd;dsimp only at hp hd;subst hp hd;have hl':(args.map (·.arg)).length=vals.length:=by rw [ah];exact hl
 have e3:¬((decide (vals.length>(args.map (·.arg)).length)&&true)=true):=by
  rw [hl',Bool.and_true,decide_eq_true_iff];exact Nat.lt_irrefl _
 refine (if_neg e3).trans ?_;have e4:∀ k:Nat,¬((!(((args.map (·.arg)).take k).filter fun n=>(((args.map (·.arg)).zip vals).lookup n).isNone).isEmpty)=true):=fun k=>by
  rw [List.filter_eq_nil_iff.mpr fun x hx=>by rw [Option.isNone_iff_eq_none];exact Option.isSome_iff_ne_none.mp (js hl' x (List.mem_of_mem_take hx))];exact nofun
 refine (if_neg (e4 _)).trans ?_;refine (De (BQ _ _ _ _)).trans ?_;exact congrArg (fun l=>(pure l:Sem (List (Str×Value)))) (Eq.trans (congrArg _ (List.append_nil _)) (mY hn hl' fun x ζ=>rfl))
structure Ad (K:Frag) (f:Addr) (sc:Scope) (ps:List Str) (b:List Stmt):Prop where
 ex:∃ oc od fd sl args,K.lookup f=some ⟨oc,od,.func fd,sl⟩/\fd.scope=sc/\fd.body=.stmts b/\fd.closure=[]/\codeIn K fd.code fd.qualname=true/\fd.params=⟨[],args,none,[],[],none,[]⟩/\args.map (·.arg)=ps/\fd.defaults=.none/\fd.globals=mainGlobals/\fd.builtins=builtinsNs
noncomputable def uj (G:List (Str×V)) (sc:Scope) (ps:List Str) (b:List Stmt):Bool :=
 sc.kind==.function&&!sc.isCoroutine&&!sc.isGenerator&&sc.names.all (fun p=>p.2!=.free)&&ps.all (dJ G sc)&&decide ps.Nodup&&b.all (t6 G 20 sc)
theorem kP {x y:Str}{ps:List Str}(h:x∉y::ps):¬x=y/\x∉ps:=⟨fun z=>h (z▸.head _),fun z=>h (.tail _ z)⟩
theorem uS {kindOf:Str->Option NameKind}{x:Str}{ps:List Str}{vals:List Value}{m:Str->Option Value}(h:x∉ps):bindL kindOf (ps.zip vals) m x=m x:=by
 induction ps generalizing vals m with
 | nil=>rfl
 | cons y ps ih =>
  induction vals using OA with
  | nil=>rfl
  | cons v vals =>
   have h:=kP h;refine (ih h.2).trans ?_;by_cases q:kindOf y=some .local
   ·exact (congrFun (if_pos q) x).trans (if_neg h.1)
   ·exact congrFun (if_neg q) x
theorem uT {kindOf:Str->Option NameKind}{x:Str}{ps:List Str}{vals:List Value}{m:Str->Option Value}(h:x∉ps):bindC kindOf (ps.zip vals) m x=m x:=by
 induction ps generalizing vals m with
 | nil=>rfl
 | cons y ps ih =>
  induction vals using OA with
  | nil=>rfl
  | cons v vals =>
   have h:=kP h;refine (ih h.2).trans ?_;by_cases q:kindOf y=some .local
   ·exact congrFun (if_pos q) x
   ·exact (congrFun (if_neg q) x).trans (if_neg h.1)
theorem qJ {kindOf:Str->Option NameKind}{X:Addr->Prop}{μ:Mu}{h:Heap}{x:Str}{d:V}{ps:List Str}{vs:List V}{vals:List Value}{m:Str->Option Value}(hn:ps.Nodup) (R:aG X μ h vs vals) (e:lk x (ps.zip vs)=some d) :
  ∃ v,bh X μ h d v/\(kindOf x=some .local->bindL kindOf (ps.zip vals) m x=some v)/\(kindOf x≠some .local->bindC kindOf (ps.zip vals) m x=some v):=by
 induction ps generalizing vs vals m with
 | nil=>exact aw e
 | cons y ps ih =>
  induction vs using OA with
  | nil=>exact aw e
  | cons d' vs =>
  refine bG R.view fun v vals zz r rs=>?_;subst zz;have hn:=List.nodup_cons.mp hn;by_cases q:y=x
  ·subst q;refine bp ((if_pos rfl).symm.trans e) ?_;refine ⟨v,r,fun k=>?_,fun k=>?_⟩
   ·exact (uS hn.1).trans ((congrFun (if_pos k) _).trans (if_pos rfl))
   ·exact (uT hn.1).trans ((congrFun (if_neg k) _).trans (if_pos rfl))
  ·have e:lk x (ps.zip vs)=some d:=(if_neg q).symm.trans e;refine bH (ih (vals:=vals) (m:=if kindOf y=some .local then fun z=>if z=y then some v else m z else m) hn.2 rs e) fun w r' h1 h2=>?_;refine bH (ih (vals:=vals) (m:=if kindOf y=some .local then m else fun z=>if z=y then some v else m z) hn.2 rs e) fun w' r'' ζ h4=>?_;by_cases k:kindOf x=some .local
   ·exact ⟨w,r',h1,fun z=>absurd k z⟩
   ·exact ⟨w',r'',fun z=>absurd z k,h4⟩
theorem iL {x:Str}{ps:List Str}{vs:List V}(h:x∉ps):lk x (ps.zip vs)=none:=by
 induction ps generalizing vs with
 | nil=>rfl
 | cons y ps ih =>
  induction vs using OA with
  | nil=>rfl
  | cons v vs=>exact (if_neg (Ne.symm (kP h).1)).trans (ih (kP h).2)
theorem sn {x:Str}{names:List (Str×NameKind)}{n:Nat}{acc:List (Str×Addr)}(h:(x,NameKind.cell)∈names\/(acc.lookup x).isSome=true):((cellsFrom n names acc).lookup x).isSome=true:=by
 induction names generalizing n acc with
 | nil=>exact h.elim nofun id
 | cons p r ih =>
  obtain ⟨y,k⟩:=p;unfold cellsFrom;have put:∀ {m:Nat},(((y,m)::acc).lookup x).isSome=true\/¬x=y:=fun {m}=>by
   by_cases q:x=y
   ·subst q;left;refine aa (List.lookup_cons ..) (aa (beq_self_eq_true ..) ?_);rfl
   ·exact .inr q
  split
  ·refine ih ?_;rcases h with h | h
   ·rcases List.mem_cons.mp h with h | h
    ·cases h;exact .inr (put.resolve_right fun q=>q rfl)
    ·exact .inl h
   ·right
    refine aa (List.lookup_cons ..) ?_
    split
    ·rfl
    ·exact h
  ·rename_i nk;refine ih (h.imp (fun h=>?_) id);rcases List.mem_cons.mp h with h | h
   ·cases h;exact absurd rfl nk
   ·exact h
section
variable {prog:Program}{w:World}{K:Frag}{base:Heap}{c:d8}{X X1:Addr->Prop}{μ μ':Mu}{h h':Heap}{s s0 sa s':Shared}{Z Z' Z'' Z1:ag}{ρ ρb ρ':aL}{env cenv:Env}{A:Around}{E:Value->Shared->Prop}{d e da:V}{k n m:Nat}
theorem iA {a:Addr}(l:eD (μ.take n) a):eD μ a:=List.mem_of_mem_take l
theorem gk {a:Addr}(q:dY X (μ.take n) a):dY X μ a:=q.imp iA id
theorem jz {p:Addr×Bool}(h:k<n) (e:μ[k]?=some p):(μ.take n)[k]?=some p:=by refine aa (List.getElem?_take ..) (aa (if_pos h ..) ?_);exact e
theorem bh.trunc {d:V}{u:Value}(r:bh X μ h d u):cO n d=true->bh X (μ.take n) h d u :=
 bh.rec (motive_1:=fun d u ζ=>cO n d=true->bh X (μ.take n) h d u) (motive_2:=fun d u ζ=>dA n d=true->aG X (μ.take n) h d u) (fun ζ=>.none) (fun b ζ=>.bool b) (fun i t ζ=>.int i t) (fun x t ζ=>.str x t)
  (fun nb e ζ i q=>.tup (fun z=>nb (gk z)) e (i q)) (fun nb e ζ i q=>.lst (fun z=>nb (gk z)) e (i q)) (fun nb e ζ=>.rng (fun z=>nb (gk z)) e) (fun e q=>.own (jz (ao q) e)) (fun v ζ=>.raw v)
  (fun ζ=>.nil) (fun ζ ζ i j e=>.cons (i (bF e).1) (j (bF e).2)) r
theorem aG.trunc {ds:List V}{us:List Value}(r:aG X μ h ds us):dA n ds=true->aG X (μ.take n) h ds us :=
 aG.ind r (P:=fun ds us=>dA n ds=true->aG X (μ.take n) h ds us) (fun ζ=>.nil) fun ζ ζ ζ ζ r ζ i e=>.cons (r.trunc (bF e).1) (i (bF e).2)
theorem fk.trunc {P:Params}{fs:List (Str×V)}{es:List DictEntry}(r:fk P X μ h fs es) (e:(fs.all fun p=>cO n p.2)=true):fk P X (μ.take n) h fs es:=by
 induction r with
 | nil=>exact .nil
 | cons q r t ih=>exact .cons q (r.trunc (bF e).1) (ih (bF e).2)
theorem ka.trunc {fs:List (Str×V)}{es:List (Str×Value)}(r:ka X μ h fs es) (e:(fs.all fun p=>cO n p.2)=true):ka X (μ.take n) h fs es:=by
 induction r with
 | nil=>exact .nil
 | cons r t ih=>exact .cons (r.trunc (bF e).1) (ih (bF e).2)
theorem cx.trunc {a:Addr}{cl:Cell}(r:cx prog w X μ h a cl) (e:mN n cl=true):cx prog w X (μ.take n) h a cl:=by
 induction cl using Cell.casesOn with
 | lst l=>exact bQ r fun vs m h1 h2=>⟨vs,m,h1,h2.trunc e⟩
 | inst C d=>exact aB r fun dx h1 h2=>⟨dx,h1,h2.elim fun b h2=>⟨b,jz (ao e) h2⟩⟩
 | attrs fs=>exact bG r fun es m h1 h2 h3=>⟨es,m,h1,h2.trunc e,h3⟩
 | sdct fs=>exact bH r fun kvs h1 h2 h3=>⟨kvs,h1,h2.trunc e,h3⟩
 | idct n=>exact r
 | dead=>trivial
theorem aS.trunc (H:aS prog w X μ h base Z) (hc:(Z.take n).all (mN n)=true):aS prog w X (μ.take n) h base (Z.take n) where
 len:=by exact aa (List.length_take ..) (aa (List.length_take ..) (aa (H.len ..) rfl))
 cell:=fun k cl e=>by
  rw [List.getElem?_take] at e;refine bR e fun hk e=>?_;refine (H.cell k cl e).imp id fun ⟨a,e1,r⟩=>⟨a,jz hk e1,r.trunc ?_⟩;exact List.all_eq_true.mp hc cl (List.mem_iff_getElem?.mpr ⟨k,by refine aa (List.getElem?_take ..) (aa (if_pos hk ..) ?_);exact e⟩)
 inj:=fun j k a e1 e2=>by
  rw [List.getElem?_take] at e1 e2;refine bR e1 fun _hc e1=>?_;refine bR e2 fun _hc e2=>?_;exact H.inj j k a e1 e2
 stays:=H.stays
 apart:=fun a q=>H.apart a (gk q)
 here:=fun a q=>H.here a (gk q)
 off:=fun a l=>H.off a (iA l)
theorem qo (H:aS prog w X μ h base Z) {v:V}{u:Value}(r:bh X μ h v u) (e:cO n (f9 Z n v)=true):bh X (μ.take n) h (f9 Z n v) u:=by
 induction v using V.casesOn with
 | own k =>
  unfold f9 at e ⊢;dsimp only at e ⊢
  split
  ·rename_i hk;rw [if_pos hk] at e
   induction q:Z[k]? using Oy with
   | none=>rw [q] at e;exact absurd (ao e) (Nat.not_lt_of_le hk)
   | some cl =>
    induction cl using Cell.casesOn with
    | lst l =>
     rw [q] at e;obtain ⟨a,rfl,e1,vs,m,h1,h2⟩:=H.ownAt r q (by simp);refine .lst (fun z=>z.elim (fun z=>?_) fun z=>H.off a (cE e1) z) h1 (h2.trunc e);refine be (tg z) fun j e2=>?_;rw [List.getElem?_take] at e2;refine bR e2 fun _hc e2=>?_;have:=H.inj j k a e2 e1;exact GN hk _hc this
    | _=>rw [q] at e;exact absurd (ao e) (Nat.not_lt_of_le hk)
  ·rename_i hk;exact r.trunc (by rw [if_neg hk] at e;exact e)
 | _=>exact r.trunc e
theorem xc (H:aS prog w X μ h base Z) {vs:List V}{us:List Value}(r:aG X μ h vs us):dA n (vs.map (f9 Z n))=true->aG X (μ.take n) h (vs.map (f9 Z n)) us :=
 aG.ind r (P:=fun vs us=>dA n (vs.map (f9 Z n))=true->aG X (μ.take n) h (vs.map (f9 Z n)) us) (fun ζ=>.nil) fun ζ ζ ζ ζ r ζ i e=>.cons (qo H r (bF e).1) (i (bF e).2)
theorem zx (H:aS prog w X μ h base Z) {v:V}{u:Value}(r:bh X μ h v u) (e:cO n (gI Z n v)=true):bh X (μ.take n) h (gI Z n v) u:=by
 induction v using V.casesOn with
 | tup l=>cases r with | tup nb ht rs=>exact .tup (fun q=>nb (gk q)) ht (xc H rs e)
 | _=>exact qo H r e
theorem BX {keep:Bool}{fl:Fl}{v:V}(H:aS prog w X μ h' base Z'') (x:fc μ' μ h) (hl:μ'.length=Z.length) {u:Value}(r:bh X μ h' (jK fl) u)
  (e:cL keep Z (some (fl,ρ',Z''))=some (v,Z')):∃ μ1,fc μ' μ1 h/\(∀ a,eD μ1 a->eD μ a)/\aS prog w X μ1 h' base Z'/\bh X μ1 h' v u:=by
 unfold cL at e;dsimp only at e;by_cases hk:keep=true
 ·rw [if_pos hk] at e;refine dr e ?_;exact ⟨μ,x,fun ζ l=>l,H,r⟩
 ·rw [if_neg hk] at e;refine bR e fun q e=>?_;rw [Bool.and_eq_true] at q;refine dr e ?_;refine ⟨μ.take Z.length,⟨fun k a b e=>?_,fun a l=>x.new a (iA l)⟩,fun ζ l=>iA l,H.trunc q.1,zx H r q.2⟩;refine be (x.ext k a b e) fun b' e'=>?_;exact ⟨b',jz (by exact aa (aH (hl ..)) ((List.getElem?_eq_some_iff.mp e).1)) e'⟩
theorem zP {f:Addr}{sc:Scope}{ps:List Str}{b:List Stmt}{vs:List V}{args:List Value}{keep:Bool}{v:V}(D:Wd K base c) (hP:fb prog w K base c k) (F:Ad K f sc ps b) (hs:uj c.G sc ps b=true) (hlen:ps.length=vs.length)
  (h:cL keep Z (cB c n (ps.zip vs) Z b)=some (v,Z')) (ro:bY A (k+1)) (H:aS prog w X μ s.heap base Z) (rs:aG X μ s.heap vs args) :
  codeAny (model prog w) A (.call (.ref f) ⟨args,[]⟩) (tW prog w base X μ s Z' v) s:=by
 obtain ⟨oc,od,fd,sl,as,g1,g2,g3,g4,g5,g6,g7,g8,g9,g10⟩:=F.ex;simp only [uj,Bool.and_eq_true,Bool.not_eq_true',beq_iff_eq,decide_eq_true_eq] at hs;refine bl hs fun Q0 s7=>?_;clear hs;refine bl (Q0) fun Q1 s6=>?_;clear Q0;refine bl (Q1) fun Q2 s5=>?_;clear Q1;obtain ⟨⟨⟨s1,s2⟩,s3⟩,s4⟩:=Q2;subst g2 g7;have KX:K.In s.heap:=fun a o e=>H.stays a o (D.KX a o e);have hal:as.length=args.length:=by exact aa (rs.length ..) (aa (aH (hlen ..)) (aa (ah ..) rfl))
 induction q:cB c n ((as.map (·.arg)).zip vs) Z b using Oy with
 | none=>rw [q] at h;exact aw h
 | some r =>
 obtain ⟨fl,ρ',Z''⟩:=r;rw [q] at h;have kind_of:∀ {x:Str},x∈as.map (·.arg)->fd.scope.names.lookup x=some .local\/fd.scope.names.lookup x=some .cell:=fun hx=>(jM (List.all_eq_true.mp s5 _ hx)).1;have inCells:∀ {x:Str}{m:Nat},fd.scope.names.lookup x=some .cell->((cellsFrom m fd.scope.names []).lookup x).isSome=true:=fun e=>sn (.inl (mem_of_lookup e));refine codeAny_call_cells (fd:=fd) (body:=b) (binds:=(as.map (·.arg)).zip args) ro.limit (KX _ _ g1) rfl (D.nolimit.keeps H.stays) (codeRec_of KX g5) g3 (mu g6 g8 s6 hal) g4 (fun x hx=>?_) (fun sa C=>?_) s2 s3 s1
 ·have hx:x.1∈as.map (·.arg):=(List.of_mem_zip hx).1;exact (kind_of hx).imp id fun e=>⟨e,inCells e⟩
 ·let env:=callEnvC fd s.heap.objs.size f
  let Y:Addr->Prop:=fun a=>X a\/a=env.locals\/∃ x,env.cells.lookup x=some a
  have XY:∀ a,X a->Y a:=fun ζ x=>.inl x;have fresh:∀ a,s.heap.objs.size<=a->s.heap.get? a=none:=fun a ha=>by
   induction e:s.heap.get? a using Oy with
   | none=>rfl
   | some o=>exact absurd (Heap.lt_size e) (Nat.not_lt_of_le ha)
  have newL:s.heap.get? env.locals=none:=fresh _ C.toInCall.fresh;have newC:∀ x a,env.cells.lookup x=some a->s.heap.get? a=none:=fun x a e=>fresh a (Nat.le_of_lt (aJ C.toInCall.fresh (C.above x a (mem_of_lookup e))));have Ynew:∀ a,Y a->X a\/s.heap.get? a=none:=fun a y=>by
   rcases y with y | rfl | ⟨x,e⟩
   ·exact .inl y
   ·exact .inr newL
   ·exact .inr (newC x a e)
  refine rV (C.toInCall.same) fun hJ ta Q3=>?_;subst Q3;have hk:=C.toInCall.keep;have P:Stp No μ μ s { s with heap:=hJ,toks:=ta }:=Stp.of_keeps hk;have Hd:aS prog w Y μ hJ base Z:=H.grow (fun a o e ζ=>hk a o e) (bX hk) fun a y=>by
   rcases y with y | rfl | ⟨x,e⟩
   ·exact .inl y
   ·refine cp (C.toInCall.ns) fun o ζ ζ e ζ=>?_;exact .inr ⟨newL,by refine aa (e ..) ?_;rfl⟩
   ·refine aB (C.cell x a e) fun o e' ζ=>?_;exact .inr ⟨newC x a e,by refine aa (e' ..) ?_;rfl⟩
  have mv:∀ {d:V}{v:Value},bh X μ s.heap d v->bh Y μ hJ d v:=fun r=>r.mono (fun a o ζ e=>hk a o e) (fc.refl _ _) Ynew;have nofree:∀ x,env.kindOf x≠some .free:=fun x e=>by
   have:=List.all_eq_true.mp s4 _ (mem_of_lookup (show fd.scope.names.lookup x=some .free from e));simp at this
  have R1:bE c.G Y μ hJ env ((as.map (·.arg)).zip vs):=by
   refine ⟨s1,g9,g10,.inr (.inl rfl),fun x d e=>?_,⟨_,C.toInCall.ns,fun x d e=>?_⟩,fun x k=>?_,fun x y a kx ky ex ey=>name_of_addr C.apart (mem_of_lookup ex) (mem_of_lookup ey)⟩
   ·by_cases hx:x∈as.map (·.arg)
    ·exact (jM (List.all_eq_true.mp s5 _ hx)).2
    ·exact absurd e (by refine aa (iL hx ..) ?_;simp)
   ·refine bH (qJ (kindOf:=env.kindOf) (m:=fun ζ=>none) s6 rs e) fun v r h1 h2=>?_;refine bH (qJ (kindOf:=env.kindOf) (m:=fun ζ=>none) s6 rs e) fun v' r' h1' h2'=>?_;have hx:x∈as.map (·.arg):=by
     by_cases hx:x∈as.map (·.arg)
     ·exact hx
     ·rw [iL hx] at e;exact aw e
    rcases kind_of hx with kx | kx
    ·exact .loc kx (h1 kx) (mv r)
    ·have kx:env.kindOf x=some .cell:=kx;refine be (ax.mp (inCells (m:=s.heap.objs.size+1) kx)) fun a ea=>?_;have:=C.cell x a ea;rw [h2 (by refine aa (kx ..) ?_;decide)] at this;exact .celk (.inl kx) ea this (.inr (.inr ⟨x,ea⟩)) (mv r)
   ·have kx:fd.scope.names.lookup x=some .cell:=k.resolve_right (nofree x);refine be (ax.mp (inCells (m:=s.heap.objs.size+1) kx)) fun a ea=>?_;exact ⟨a,_,ea,C.cell x a ea,.inr (.inr ⟨x,ea⟩),Nat.ne_of_gt (C.above x a (mem_of_lookup ea))⟩
  refine az (vA D hP n (s:={ s with heap:=hJ,toks:=ta }) (fun ζ ζ=>False) q s7 ro.deeper R1 Hd) (fun f' sb hx=>?_) fun ζ ζ x=>x.elim;obtain ⟨μ2,pb,He,Fa⟩:=hx;have Pn:Stp No μ μ2 s sb:=((P.wide fun ζ q=>q.elim).trans pb).narrow fun a q=>by
   rcases q with rfl | ⟨x,_,e⟩
   ·exact newL
   ·exact newC x a e
  obtain ⟨u,hu,rb⟩:∃ u,u=(match f' with | .ret v=>v | _=>.none)/\bh Y μ2 sb.heap (jK fl) u:=by
   induction fl using Fl.casesOn with
   | next=>obtain ⟨rfl,_⟩:=Fa;exact ⟨_,rfl,.none⟩
   | ret d=>obtain ⟨v,rfl,r⟩:=Fa;exact ⟨_,rfl,r⟩
  refine ij (BX He Pn.ext H.len rb h) fun μ3 xb lc Hf rc=>?_;exact ⟨u,μ3,by refine aa (hu ..) ?_;induction f' using Flow.casesOn<;>rfl,⟨Pn.same,Pn.keep,Pn.there,xb⟩,Hf.drop XY,rc.drop XY⟩
end
noncomputable abbrev je (C:Addr) (rest:List Value):Code:=.builtin "type.__call__" ⟨.ref C::rest,[]⟩
theorem n8 (C:Addr) (rest:List Value):(je C rest).guards=[]:=by
 unfold Code.guards;rw [show (je C rest).isGuard=false from by show guardIds.contains "type.__call__" =false;decide +kernel];rfl
theorem bY.creates {A:Around}{k:Nat}{C:Addr}{rest:List Value}(r:bY A (k+1)):bY (A.under (je C rest)) k:=by
 have hw:(je C rest).weight=1:=by
  unfold Code.weight;rw [show (je C rest).isGuard=false from by show guardIds.contains "type.__call__" =false;decide +kernel];rfl
 refine ⟨r.handled,?_,?_,?_⟩
 ·show pushGuards (je C rest).guards A.guards=some [];refine aa (n8 ..) ?_;exact r.guards
 ·have:=r.depth;show A.depth+(je C rest).weight+10*k<=900;refine aa (hw ..) ?_;exact Eu this
 ·have:=r.units;show A.units+(je C rest).cUnits+100*k+500<=9000;refine aa (show (je C rest).cUnits=1 from rfl ..) ?_;exact GM this
section
variable {prog:Program}{w:World}{K:Frag}{base:Heap}{c:d8}{X X1:Addr->Prop}{μ μ':Mu}{h h':Heap}{s s0 sa s':Shared}{Z Z' Z'' Z1:ag}{ρ ρb ρ':aL}{env cenv:Env}{A:Around}{E:Value->Shared->Prop}{d e da:V}{k n m:Nat}
noncomputable abbrev nU (h:Heap) (C:Addr):Heap:=(h.push emptyDict).push (instObj C h.objs.size)
theorem tR (H:aS prog w X μ s.heap base Z) (C:Addr):∃ μ',Stp No μ μ' s { s with heap:=nU s.heap C }/\aS prog w X μ' (nU s.heap C) base (bare C Z)/\μ'[Z.length+1]?=some (s.heap.objs.size+1,true):=by
 have k1:∀ a o,s.heap.get? a=some o->(s.heap.push emptyDict).get? a=some o:=fun ζ ζ e=>ak _ e;have k2:∀ a o,(s.heap.push emptyDict).get? a=some o->(nU s.heap C).get? a=some o:=fun ζ ζ e=>ak _ e;have e1:(s.heap.push emptyDict).get? s.heap.objs.size=some emptyDict:=aW _ rfl;refine bl (H.add (c:=.attrs []) k1 (bP _) (by refine aa (e1 ..) ?_;rfl) ⟨[],0,e1,.nil,by simp⟩) fun H1 x1=>?_;have hl:(μ++[(s.heap.objs.size,true)]).length=Z.length+1:=by refine aa (ai ..) (aa (H.len ..) ?_);rfl
 have e2:(nU s.heap C).get? (s.heap.push emptyDict).objs.size=some (instObj C s.heap.objs.size):=aW _ rfl;obtain ⟨H2,x2⟩:=H1.add (c:=.inst C Z.length) k2 (bP _) (by refine aa (e2 ..) ?_;rfl) ⟨s.heap.objs.size,e2,true,by
  refine aa (ba (by rw [hl];exact Nat.lt_succ_self _) ..) (aa (List.getElem?_append_right (by rw [H.len];exact aU _) ..) (aa (H.len ..) (aa (Nat.sub_self ..) ?_)));rfl⟩
 refine ⟨_,⟨⟨_,s.toks,rfl⟩,fun a o ζ ζ e=>k2 a o (k1 a o e),bX fun a o e=>k2 a o (k1 a o e),⟨fun k a b e=>?_,fun a l=>?_⟩⟩,by
   have:bare C Z=(Z++[Cell.attrs []])++[.inst C Z.length]:=by unfold bare;simp
   refine aa (this ..) ?_;exact H2,?_⟩
 ·refine be (x1.ext k a b e) fun b' e'=>?_;exact x2.ext k a b' e'
 ·rcases x2.new a l with l | l
  ·exact x1.new a l
  ·right
   induction q:s.heap.get? a using Oy with
   | none=>rfl
   | some o=>rw [k1 a o q] at l;exact gQ l
 ·refine aa (List.getElem?_append_right (by rw [hl];exact aU _) ..) (aa (hl ..) (aa (Nat.sub_self ..) (aa (Heap.size_push ..) ?_)));rfl
theorem rg {f:Addr}{C:Addr}{v:V}(D:Wd K base c) (hP:fb prog w K base c k) (hm:makesIn K C=true) (hi:findIn K (.ref C) "__init__" =some (some (.ref f))) (hf:typeIn K (.ref f)=some (.type "function"))
  (h:((c.Φ f [.own (Z.length+1)] (bare C Z)).bind ti).map (fun Z1=>(V.own (Z.length+1),Z1))=some (v,Z')) (ro:bY A (k+1)) (H:aS prog w X μ s.heap base Z) :
  codeAny (model prog w) A (.call (.ref C) ⟨[],[]⟩) (tW prog w base X μ s Z' v) s:=by
 refine eu h fun Z1 h1 h2=>?_;clear h
 cases h2
 refine aB (Option.bind_eq_some_iff.mp h1) fun Q0 h3 h4=>?_;obtain ⟨v0,Z2⟩:=Q0;have KX:K.In s.heap:=fun a o e=>H.stays a o (D.KX a o e);refine bH (tR H C) fun μ1 pa Hd eb=>?_;obtain ⟨hh,g,d,t,os⟩:=s;refine make_core (makes_of KX hm) (looks_findIn KX hi) (fun self=>bind_fn KX self hf) (.inl rfl) ?_;refine codeAny_mono ((hP f _ _ _ _ h3).2 _ ro.creates X μ1 ⟨nU hh C,g,d,t,os⟩ [.ref (hh.objs.size+1)] Hd (.cons (.own eb) .nil)) fun r s' hr=>?_;obtain ⟨u,μ2,rfl,pb,He,rb⟩:=hr;have:v0=.none/\Z2=Z':=by induction v0 using V.casesOn<;>first | (cases h4;exact ⟨rfl,rfl⟩) | cases h4
 refine bl (this) fun Q1 Q2=>?_;clear this;subst Q1;subst Q2
 cases rb
 refine be (pb.ext.ext _ _ _ eb) fun b' ee=>?_;exact ⟨rfl,_,μ2,rfl,pa.trans pb,He,.own ee⟩
end
theorem sV {X:Addr->Prop}{μ:Mu}{h:Heap}{x:Str}{d:V}{ps:List Str}{vs:List V}{vals:List Value}(hn:ps.Nodup) (R:aG X μ h vs vals) (e:lk x (ps.zip vs)=some d):∃ v,(ps.zip vals).reverse.lookup x=some v/\bh X μ h d v:=by
 induction ps generalizing vs vals with
 | nil=>exact aw e
 | cons y ps ih =>
  induction vs using OA with
  | nil=>exact aw e
  | cons d' vs =>
  refine bG R.view fun v vals zz r rs=>?_;subst zz;have hn:=List.nodup_cons.mp hn;refine aa (List.reverse_cons ..) (aa (List.lookup_append ..) ?_);by_cases q:y=x
  ·subst q;refine bp ((if_pos rfl).symm.trans e) ?_;have:(ps.zip vals).reverse.lookup y=none:=List.lookup_eq_none_iff.mpr fun p hp=>by
    have:=(List.of_mem_zip (List.mem_reverse.mp hp)).1;simpa using fun z:y=p.1=>hn.1 (z▸this)
   refine aa (this ..) ?_;exact ⟨v,by simp,r⟩
  ·exact aB (ih hn.2 rs ((if_neg q).symm.trans e)) fun w h1 h2=>⟨w,by refine aa (h1 ..) ?_;rfl,h2⟩
inductive qS:List Str->List Stmt->Prop
 | nil:qS [] []
 | cons {y:Str}{ys:List Str}{b:List Stmt}(p1 p2 p3 p4:Pos):qS ys b->qS (y::ys) (.Assign [.Attribute (.Name (T "self") p1) y p2] (.Name y p3) p4::b)
section
variable {prog:Program}{w:World}{K:Frag}{base:Heap}{c:d8}{X X1 Y:Addr->Prop}{μ μ':Mu}{h h':Heap}{s s0 sa s':Shared}{Z Z' Z'' Z1:ag}{ρ ρb ρ':aL}{env cenv:Env}{A:Around}{E:Value->Shared->Prop}{d e da:V}{k n m:Nat}
structure Ac (Y:Addr->Prop) (μ:Mu) (h:Heap) (env:Env) (l:List (Str×V)):Prop where
 kind:env.scope.kind=.function
 bar:Y env.locals
 ns:∃ m,h.Ns env.locals m/\∀ y d,lk y l=some d->env.kindOf y=some .local/\(y==("__debug__" :Str))=false/\∃ v,m y=some v/\bh Y μ h d v
theorem Ac.stp {l:List (Str×V)}(F:Ac Y μ s.heap env l) (p:Stp No μ μ' s s') (off:∀ a,eD μ a->¬Y a):Ac Y μ' s'.heap env l :=
 ⟨F.kind,F.bar,aB F.ns fun m h1 h2=>⟨m,h1.at' fun o e=>p.keep _ o (fun l=>off _ l F.bar) (fun q=>q) e,fun y d e=>fi (h2 y d e) fun a b z=>⟨a,b,aB z fun v q r=>⟨v,q,r.stp p⟩⟩⟩⟩
theorem Ac.name {l:List (Str×V)}{y:Str}{pos:Pos}{Q:Value->Shared->Prop}(F:Ac Y μ s.heap env l) (e:lk y l=some d) (h:∀ v,bh Y μ s.heap d v->Q v s):wpAny (model prog w) A (eval (.Name y pos) env) Q E s:=by
 refine aB (F.ns) fun m h1 h2=>?_;refine fi (h2 y d e) fun a b Q0=>?_;refine aB (Q0) fun v q r=>?_;clear Q0;exact wpAny_Name (wpAny_loadName_local F.kind a h1 q (h v r)) b
theorem jP {k:Nat}{x:Str}(h:oj Z k x d=some Z'):∃ fs,Z[k]?=some (.attrs fs)/\eX d=false/\fs.length<=400/\Z'=Z.set k (.attrs (st x d fs)):=by
 delta oj at h;generalize Z[k]?=o at h ⊢
 induction o using Oy with
 | none=>exact aw h
 | some c =>
  induction c using Cell.casesOn with
  | attrs fs =>
   refine bR h fun q h=>?_;simp only [Bool.and_eq_true,Bool.not_eq_true',decide_eq_true_eq] at q;exact bp h ⟨fs,rfl,q.1,q.2,rfl⟩
  | _=>exact aw h
theorem lw {k j:Nat}{x:Str}{C:Addr}(hi:Z[j]?=some (.inst C k)) (h:oj Z k x d=some Z'):Z'[j]?=some (.inst C k):=by
 refine ij (jP h) fun fs e ζ ζ Q0=>?_;subst Q0;refine aa (List.getElem?_set ..) (aa (if_neg (fun z:k=j=>by rw [z,hi] at e;cases e) ..) ?_);exact hi
theorem v8 {C:Addr}{kc:Nat}(D:Wd K base c) {ys:List Str}{b:List Stmt}{l ds:List (Str×V)}{Z Z':ag}{μ:Mu}{s:Shared}(hp:qS ys b) (ha:∀ y∈ys,c.att C y=true) (e:ds.map (·.1)=ys) (hl:∀ p∈ds,lk p.1 l=some p.2) (F:Ac Y μ s.heap env l) (hs:lk (T "self") l=some (.own (kc+1))) (hi:Z[kc+1]?=some (.inst C kc))
  (H:aS prog w Y μ s.heap base Z) (h:kr kc ds Z=some Z'):wpAny (model prog w) A (execs b env) (fun f s'=>f=.next/\Stp No μ μ s s'/\aS prog w Y μ s'.heap base Z') E s:=by
 induction hp generalizing ds Z s with
 | nil =>
  induction ds using OA with
  | nil=>exact bp h (wpAny_execs_nil ⟨rfl,Stp.refl _ _ _,H⟩)
  | cons _ _=>exact nomatch e
 | @cons y ys b p1 p2 p3 p4 hb ih =>
  induction ds using OA with
  | nil=>exact nomatch e
  | cons p0 ds =>
  have e0:p0.1=y:=(List.cons.inj e).1;have e':ds.map (·.1)=ys:=(List.cons.inj e).2;subst e0;refine dv (show (oj Z kc p0.1 p0.2).bind (kr kc ds)=some Z' from h) fun Z1 h1 h2=>?_;have hi':=lw hi h1;refine ij (jP h1) fun fs e1 e2 e3 Q0=>?_;subst Q0;refine wpAny_execs_cons (plainObj_wpAny_Assign_Attribute (F.name (hl _ (.head _)) fun v rv=>F.name hs fun u ru=>az (iJ D H ru hi e1 (ha _ (.head _)) e3 e2 rv) (fun ζ sb hq=>?_) fun ζ ζ x=>x));refine bl hq fun p He=>?_;clear hq;refine az (ih (fun y hy=>ha y (.tail _ hy)) e' (fun p hp=>hl p (.tail _ hp)) (F.stp p H.off) hi' He h2) (fun f se hq=>?_) fun ζ ζ x=>x;exact ⟨hq.1,p.trans hq.2.1,hq.2.2⟩
set_option genInjectivity false in
structure AY where
 oc:Value
 od:Option Addr
 fd:FuncData
 sl:Array (Option Value)
 args:List Arg
 (cc cda:Addr)
 occ:Value
 occd:Option Addr
 vs:Array Value
 occs:Array (Option Value)
 file:Str
 tf:Tok
 ocl:Value
 ocld:Option Addr
 ocs:Array (Option Value)
 (cdD cdC:ClassData)
 (p0 p1 p2 p3 p4 p5 p6 p7 p8 p9 p10 p11 q1 q2 q3 q4 q5 q6:Pos)
 (k1 k2:Nat)
 b:List Stmt
structure Dv (prog:Program) (K:Frag) (C f:Addr) (kind:Str) (ys:List Str) (I:AY):Prop where
 g1:K.lookup f=some ⟨I.oc,I.od,.func I.fd,I.sl⟩
 g2:codeIn K I.fd.code I.fd.qualname=true
 g3:I.fd.params=⟨[],I.args,none,[],[],none,[]⟩
 g4:I.args.map (·.arg)=T "self" ::T "taken" ::ys
 g5:I.fd.defaults=.none
 g6:I.fd.globals=mainGlobals
 g7:I.fd.builtins=builtinsNs
 g8:I.fd.closure=[(("__class__" :Str),I.cc)]
 g9:I.fd.code=.ref I.cda
 g10:K.lookup I.cda=some ⟨I.occ,I.occd,.fields I.vs,I.occs⟩
 g11:I.vs[2]?=some (.str I.file I.tf)
 g12:((prog.main.file:Str)==I.file)=true
 g13:K.lookup I.cc=some ⟨I.ocl,I.ocld,.cell (some (.ref C)),I.ocs⟩
 g14:clsIn K C=some I.cdC
 g15:mroIn K C (.ref C)=some true
 g16:alongIn K "__init__" ((I.cdC.mro.dropWhile (·!=.ref C)).drop 1)=some (some (.ref 295))
 g17:I.fd.scope.kind=.function
 g18:I.fd.scope.isCoroutine=false
 g19:I.fd.scope.isGenerator=false
 g20:(∀ x∈I.fd.scope.names,x.2≠.cell)
 g21:(∀ y∈T "self" ::T "taken" ::ys,I.fd.scope.names.lookup y=some .local)
 g22:I.fd.scope.names.lookup ("super" :Str)=some .globalImplicit
 g23:I.fd.scope.names.lookup ("__class__" :Str)=some .free
 g24:I.fd.scope.names.lookup (T "tuple")=some .globalImplicit
 g25:I.fd.body=.stmts (.Expr (.Call (.Attribute (.Call (.Name "super" I.p0) [] [] I.p1) "__init__" I.p2) [.BinOp (.Call (.Name (T "tuple") I.p3) [.Name (T "taken") I.p4] [] I.p5) .Add (.Tuple [.Name (T "n") I.p6] I.k1 I.p7) I.p8,.Constant (.str kind) I.k2 I.p9] [] I.p10) I.p11::.Assign [.Attribute (.Name (T "self") I.q1) (T "taken") I.q2] (.Call (.Name (T "tuple") I.q3) [.Name (T "taken") I.q4] [] I.q5) I.q6::I.b)
 g26:qS ys I.b
 g27:I.p2.endLine=I.p10.line
structure kb (prog:Program) (K:Frag) (G:List (Str×V)) (C f:Addr) (kind:Str) (ys:List Str):Prop where
 make:makesIn K C=true
 find:findIn K (.ref C) "__init__" =some (some (.ref f))
 typ:typeIn K (.ref f)=some (.type "function")
 nodup:(T "self" ::T "taken" ::ys).Nodup
 hasn:T "n" ∈ys
 ndbg:∀ y∈T "self" ::T "taken" ::ys,(y==("__debug__" :Str))=false
 fn:∃ I:AY,Dv prog K C f kind ys I
structure Mk (prog:Program) (K:Frag) (base:Heap) (G:List (Str×V)):Prop where
 sup:∃ mg mb,base.Ns mainGlobals mg/\base.Ns builtinsNs mb/\mg "super" =none/\mb "super" =some (.type "super")/\mg (T "tuple")=none/\mb (T "tuple")=some (.type "tuple")
 opaq:nsIn K cStatics "thirdparty.any" =some none
 fn295:fnIn K 295=true/\typeIn K (.ref 295)=some (.type "function")
 top:(prog.main.scope.names.lookup ("super" :Str)).isSome=false
theorem k8 {l:List (Str×V)}{t:List V}{p1 p2 p3:Pos}{Q:Value->Shared->Prop}{k:Nat}(ro:bY A k) (M:Mk prog K base c.G) (F:Ac Y μ s.heap env l) (hg:env.globals=mainGlobals) (hb:env.builtins=builtinsNs) (hx:env.kindOf (T "tuple")=some .globalImplicit)
  (e:lk (T "taken") l=some (.tup t)) (ht:t.length<=lim) (H:aS prog w Y μ s.heap base Z) (hQ:∀ μ' v s',Stp No μ μ' s s'->aS prog w Y μ' s'.heap base Z->bh Y μ' s'.heap (.tup t) v->Q v s') :
  wpAny (model prog w) A (eval (.Call (.Name (T "tuple") p1) [.Name (T "taken") p2] [] p3) env) Q E s:=by
 show wpAny _ _ (eval (.Name (T "tuple") p1) env >>= fun f=>callWith p3 f [] (backTo p3 (starEach [.Name (T "taken") p2] env)) []) _ _ s;refine iU (M.sup) fun mg mb h1 h2 ζ ζ h3 h4=>?_;refine ab (Calls.Name_function_global F.kind hx (Calls.loadGlobal_builtin (by exact aa (hg ..) (h1.keeps H.stays)) h3 (by exact aa (hb ..) (h2.keeps H.stays)) h4 ?_) (by decide +kernel));refine fJ rfl (fun ζ=>nofun) (wpAny_items_cons (F.name e fun v rv=>wpAny_items_nil ?_) (b7 rfl));refine az (mB (b:=.type "tuple") (vs:=[.tup t]) (d:=.tup t) ro H (.cons rv .nil) ?_) (fun v' s' hr=>?_) fun ζ ζ x=>x
 ·show ((bO Z (.tup t)).bind fun l=>if l.length<=lim then some (V.tup l) else none)=_;show (if t.length<=lim then some (V.tup t) else none)=_;exact aa (if_pos ht ..) rfl
 ·refine Res.el (hr) fun μ' p H' r=>?_;clear hr;exact hQ μ' v' s' p H' r
theorem n5 {α:Type}:∀ {ys:List Str}{vs:List α},ys.Nodup->∀ p∈ys.zip vs,lk p.1 (ys.zip vs)=some p.2
 | [],_,_,p,hp=>by rw [List.zip_nil_left] at hp;cases hp
 | _::_,[],_,p,hp=>by rw [List.zip_nil_right] at hp;cases hp
 | y::ys,v::vs,hn,p,hp=>by
  rw [List.zip_cons_cons] at hp ⊢;rw [List.nodup_cons] at hn;rcases List.mem_cons.mp hp with rfl | hp
  ·unfold lk;exact if_pos rfl
  ·have:=(List.of_mem_zip hp).1;unfold lk;refine aa (if_neg fun z:y=p.1=>hn.1 (by rw [z];exact this) ..) ?_;exact n5 hn.2 p hp
theorem pU {M:Model}{cd:Code}{o:Expr}{name:Str}{apos pos:Pos}{as:List Expr}{Q:Value->Shared->Prop}(hs:as.all dB=true) (hlen:as.length<29) (hline:(apos.endLine==pos.line)=true)
  (h:_root_.PySem.wpAt M A cd (attributeBase o name env (eval o env)) (fun ov sa=>∀ pl,wpAny M A (getMethod ov name pl) (fun fx sb=>wpAny M A (callWith pos fx.1 fx.2 (backTo pos (starEach as env)) []) Q E sb) E sa) E s) :
  _root_.PySem.wpAt M A cd (eval (.Call (.Attribute o name apos) as [] pos) env) Q E s:=by
 refine aa (arm_eval_Call ..) ?_;refine _root_.PySem.wpAt_bind (ks_wpAt_mono h (fun ov sa hJ=>_root_.PySem.wpAt_of_wpAny (ab (wpAny_standAt ?_))) fun ζ ζ x=>x);have hform:methodCallForm (as.length+([]:List Keyword).length) (backTo pos (starEach as env)) (backToKw pos (keywordEach [] env))=true:=by
  unfold methodCallForm;refine aa (jh pos hs ..) ?_;show (true&&true&&decide (as.length+0+0<30))=true;simp;exact Em hlen
 have hpos:methodCallPos true o env apos pos=pure pos:=by unfold methodCallPos;simp [hline]
 unfold methodCall calleeOf;refine aa (hform ..) ?_;exact ab (wpAny_holding (az (hJ _) (fun fx sb hU=>ab (wpAny_of_eq hpos hU)) fun ζ ζ x=>x))
theorem zs {as:List Arg}{x:Str}{l:List Str}(h:as.map (·.arg)=x::l):∃ ar,(([]:List Arg)++as).head?=some ar/\ar.arg=x:=by
 induction as using OA with
 | nil=>cases h
 | cons a as=>exact ⟨a,rfl,(List.cons.inj h).1⟩
theorem uM {K:Frag}{C:Addr}{cd:ClassData}(h:W.clsIn K C=some cd):∃ oD,K.lookup C=some oD/\oD.data=.cls cd:=by
 delta W.clsIn at h;generalize K.lookup C=o at h ⊢
 induction o using Oy with
 | none=>exact aw h
 | some o =>
  obtain ⟨a,b,dt,sl⟩:=o
  induction dt using Data.casesOn with
  | cls cd=>exact bp h ⟨_,rfl,rfl⟩
  | _=>exact aw h
theorem zq {C f:Addr}{kind:Str}{ys:List Str}{t vs:List V}{nv:V}{args:List Value}{kc:Nat}(D:Wd K base c) (M:Mk prog K base c.G) (F:kb prog K c.G C f kind ys) (hP:fb prog w K base c k)
  (hat:∀ y∈T "taken" ::ys,c.att C y=true) (ht:t.length<=lim) (hlen:ys.length=vs.length) (hn:lk (T "n") (ys.zip vs)=some nv) (hself:Z[kc+1]?=some (.inst C kc)) (hafter:Z1[kc+1]?=some (.inst C kc))
  (h1:(c.Φ 295 [.own (kc+1),.tup (t++[nv]),.str kind] Z)=some (.none,Z1)) (h2':kr kc ((T "taken",.tup t)::ys.zip vs) Z1=some Z')
  (ro:bY A (k+1)) (H:aS prog w X μ s.heap base Z) (rs:aG X μ s.heap (.own (kc+1)::.tup t::vs) args) :
  codeAny (model prog w) A (.call (.ref f) ⟨args,[]⟩) (fun r s'=>∃ μ',r=.ok (.ret .none)/\Stp No μ μ' s s'/\aS prog w X μ' s'.heap base Z') s:=by
 refine be (F.fn) fun I o=>?_;obtain ⟨g1,g2,g3,g4,g5,g6,g7,g8,g9,g10,g11,g12,g13,g14,g15,g16,g17,g18,g19,g20,g21,g22,g23,g24,g25,g26,g27⟩:=o;have KX:∀ {X:Addr->Prop}{μ:Mu}{h:Heap}{Z:ag},aS prog w X μ h base Z->K.In h:=fun H a o e=>H.stays a o (D.KX a o e);have hal:I.args.length=args.length:=by
  have:=congrArg List.length g4;refine aa (rs.length ..) ?_;simp only [ah,aR] at this ⊢;exact GE hlen this
 have hbind:bindArgs I.fd ⟨args,[]⟩=pure ((T "self" ::T "taken" ::ys).zip args):=by exact aa (mu g3 g5 (by rw [g4];exact F.nodup) hal ..) (aa (g4 ..) rfl)
 refine ks_codeAny_call_defAt (fd:=I.fd) ro.limit (KX H _ _ g1) rfl (D.nolimit.keeps H.stays) (codeRec_of (KX H) g2) g25 (BindsTo.of_eq hbind) g20 (fun x hx=>g21 _ (List.of_mem_zip hx).1) (fun hO hns hk=>?_) g18 g19 g17
 let env:=callEnv I.fd s.heap.objs.size f
 let Y:Addr->Prop:=fun a=>X a\/a=env.locals
 have newL:s.heap.get? env.locals=none:=bP _;have Ynew:∀ a,Y a->X a\/s.heap.get? a=none:=fun a y=>y.imp id fun e=>by subst e;exact newL
 let l:List (Str×V):=(T "self" ::T "taken" ::ys).zip (V.own (kc+1)::V.tup t::vs)
 have hnd:=F.nodup;have ls:lk (T "self") l=some (.own (kc+1)):=n5 hnd (T "self",V.own (kc+1)) (.head _);have lt:lk (T "taken") l=some (.tup t):=n5 hnd (T "taken",V.tup t) (.tail _ (.head _));have lys:∀ p∈ys.zip vs,lk p.1 l=some p.2:=fun p hp=>n5 hnd p (.tail _ (.tail _ hp));have ln:lk (T "n") l=some nv:=by
  have e1:∀ z∈([T "self",T "taken"]:List Str),z≠T "n" :=fun z hz q=>by
   simp only [List.mem_cons,List.not_mem_nil,or_false] at hz;rcases hz with rfl | rfl
   ·exact (List.nodup_cons.mp hnd).1 (q▸.tail _ F.hasn)
   ·exact (List.nodup_cons.mp (List.nodup_cons.mp hnd).2).1 (q▸F.hasn)
  show lk (T "n") ((T "self",_)::(T "taken",_)::ys.zip vs)=_;unfold lk;refine aa (if_neg (e1 _ (.head _)) ..) ?_;unfold lk;refine aa (if_neg (e1 _ (.tail _ (.head _))) ..) ?_;exact hn
 let s1:Shared:={ s with heap:=hO,toks:=s.toks+((T "self" ::T "taken" ::ys).zip args).length }
 have P1:Stp No μ μ s s1:=Stp.of_keeps hk;have H1:aS prog w Y μ s1.heap base Z:=H.grow (fun a o e ζ=>hk a o e) (bX hk) fun a y=>y.imp id fun e=>by
  subst e;refine cp hns fun o ζ ζ e ζ=>?_;clear hns;exact ⟨newL,by show (hO.get? s.heap.objs.size).isSome=true;refine aa (e ..) ?_;rfl⟩
 have rs1:aG Y μ hO (.own (kc+1)::.tup t::vs) args:=rs.mono (fun a o ζ e=>hk a o e) (fc.refl _ _) Ynew;have F1:Ac Y μ s1.heap env l:=⟨g17,.inr rfl,_,hns,fun y d e=>by
  have hy:y∈T "self" ::T "taken" ::ys:=by
   by_cases hy:y∈T "self" ::T "taken" ::ys
   ·exact hy
   ·exact absurd e (by refine aa (iL hy ..) ?_;simp)
  refine aB (sV hnd rs1 e) fun v e1 r=>?_;exact ⟨g21 y hy,F.ndbg y hy,v,e1,r⟩⟩
 have cellOf:∀ {X:Addr->Prop}{μ:Mu}{h:Heap}{Z:ag},aS prog w X μ h base Z->h.IsCell I.cc (some (.ref C)):=fun H=>⟨_,KX H _ _ g13,rfl⟩;have cdCat:∀ {X:Addr->Prop}{μ:Mu}{h:Heap}{Z:ag},aS prog w X μ h base Z->∃ oD,h.get? C=some oD/\oD.data=.cls I.cdC:=fun H=>by
  exact aB (uM g14) fun oD h1 h2=>⟨oD,KX H _ _ h1,h2⟩
 refine aB (sV hnd rs1 ls) fun u0 e0 r0=>?_;obtain ⟨x,hx,hμx,_⟩:=H1.ownAt r0 hself (by simp);subst hx;obtain ⟨dx,ex,_⟩:cx prog w Y μ hO x (.inst C kc):=by
  obtain ⟨a,ha,q,r⟩:=H1.ownAt r0 hself (by simp);cases ha;exact r
 refine aB (cdCat H1) fun oD hD1 hD2=>?_;have hhead:∃ ar,(I.fd.params.posonlyargs++I.fd.params.args).head?=some ar/\ar.arg=T "self" :=by refine aa (g3 ..) ?_;exact zs g4
 refine aB hhead fun ar har harg=>?_;clear hhead;refine iU (M.sup) fun smg smb sup1 sup2 sup3 sup4 ζ ζ=>?_;refine ks_wpAt_execs_cons (ks_wpAt_Expr_any (pU rfl (by simp) (by refine aa (g27 ..) ?_;simp) (ks_wpAt_super_base (env:=env) g22 g23 (by decide +kernel) rfl (KX H1 _ _ g1) rfl har g9 (KX H1 _ _ g10) rfl g11 g12 M.top ?_)) (gW g17));refine ks_loadName_global g17 g22 (Calls.loadGlobal_builtin (env:=env) (by exact aa (show env.globals=mainGlobals from g6 ..) (sup1.keeps H1.stays)) sup3 (by exact aa (show env.builtins=builtinsNs from g7 ..) (sup2.keeps H1.stays)) sup4 ⟨rfl,?_⟩);refine wpAny_loadName_free g17 g23 (c:=I.cc) (by refine aa (show env.cells=I.fd.closure from rfl ..) (aa (g8 ..) ?_);rfl) (cellOf H1) ?_;refine wpAny_loadName_local g17 (g21 _ (by exact aa (harg ..) (.head _))) hns (v:=.ref x) (by exact aa (harg ..) (e0)) ?_;refine ks_wpAny_isType_cls hD1 hD2 ⟨rfl,?_⟩;refine ks_wpAny_call_super hD1 hD2 ex rfl (fun ζ=>nofun) (looks_mroIn (KX H1) g15) fun h2 hso hk2 pl=>?_;have hxC:x≠C:=fun z=>by rw [z,hD1] at ex;(have q_:=aq ex;clear ex;subst q_);cases hD2
 have H2:aS prog w Y μ h2 base Z:=H1.keeps hk2;obtain ⟨of,hof,hofc⟩:∃ of,K.lookup 295=some of/\of.cls=.type "function" :=by
  have ht':(K.lookup 295).map (·.cls)=some (.type "function"):=M.fn295.2
  induction z:K.lookup 295 using Oy with
  | none=>rw [z] at ht';exact aw ht'
  | some of=>rw [z] at ht';exact ⟨of,rfl,aq ht'⟩
 refine ks_wpAny_getMethod_super hso (looks_opaque (KX H2) M.opaq) (l₀:=I.cdC.mro) (fun A Q E s k q=>ab ((looks_clsIn (KX H2) g14) A _ E s k (av q))) rfl (KX H2) g16 (KX H2 _ _ hof) hofc hxC (by decide +kernel) ?_
 let s3:Shared:=⟨h2.push (methodObj (.ref 295) (.ref x)),s.gens,s.drawn,s1.toks+1,s.os⟩
 have k3:∀ a o,s1.heap.get? a=some o->s3.heap.get? a=some o:=fun a o e=>ak _ (hk2 a o e);have P3:Stp No μ μ s1 s3:=Stp.of_keeps k3;have H3:aS prog w Y μ s3.heap base Z:=H1.keeps k3;have F3:Ac Y μ s3.heap env l:=F1.stp P3 H1.off;have r3:bh Y μ s3.heap (.own (kc+1)) (.ref x):=r0.stp P3;have hq3:s3.heap.get? h2.objs.size=some (methodObj (.ref 295) (.ref x)):=aW _ rfl;refine callWith_of' (P:=MethP K h2.objs.size 295 (.ref x)) rfl (keeps_M M.fn295.1) ?_;refine wpAny_items_cons (wpAny_BinOp (k8 ro.deeper M F3 g6 g7 g24 lt ht H3 fun μ4 v4 s4 P4 H4 r4=>?_)) (b7 rfl);have F4:=F3.stp P4 H3.off;refine wpAny_Tuple (wpAny_items_cons (F4.name ln fun v5 r5=>wpAny_items_nil ⟨by refine aa (sizeLine_eq ..) ?_;simp,?_⟩) (b7 rfl));refine Res.el (Res.tuple H4 (aG.cons r5 .nil)) fun μ6 P6 H6 r6=>?_;refine az (qG (op:=.Add) (da:=.tup (t++[nv])) H6 (r4.stp P6) r6 (if_pos ⟨ht,by simp [lim]⟩)) (fun v7 s7 h7=>?_) fun ζ ζ z=>z;refine Res.el (h7) fun μ7 P7 H7 r7=>?_;clear h7;have P37:Stp No μ μ7 s3 s7:=(P4.trans P6).trans P7;have nq:¬eD μ h2.objs.size:=fun z=>by
  refine be (ax.mp (H1.here _ (.inl z))) fun o e=>?_;have:=hk2 _ _ e;rw [bP] at this;exact aw this
 have hq7:s7.heap.get? h2.objs.size=some (methodObj (.ref 295) (.ref x)):=P37.keep _ _ nq (fun q=>q) hq3;refine wpAny_items_cons (wpAny_Constant_str (wpAny_items_nil ⟨⟨hq7,KX H7⟩,?_⟩)) (b7 rfl);refine wpAny_call (ks_codeAny_call_bound (a:=⟨[v7,.str kind s7.toks],[]⟩) hq7 ?_);refine codeAny_mono ((hP 295 _ _ _ _ h1).2 _ ro.deeper Y μ7 { s7 with toks:=s7.toks+1 } [.ref x,v7,.str kind s7.toks] H7 (.cons (r3.stp P37) (.cons r7 (.cons (.str _ _) .nil)))) fun r s8 hr=>?_;obtain ⟨u8,μ8,rfl,P8,H8,r8⟩:=hr
 cases r8
 have P38:Stp No μ μ8 s3 s8:=P37.trans ((Stp.of_keeps (tk:=s7.toks+1) fun ζ ζ e=>e).trans P8);have F8:=F3.stp P38 H3.off;show _root_.PySem.wpAt _ _ _ (execs _ _) _ _ _;refine dv (show (oj Z1 kc (T "taken") (.tup t)).bind (kr kc (ys.zip vs))=some Z' from h2') fun Z2 e1 e2=>?_;have hself2:=lw hafter e1;refine ij (jP e1) fun fs e3 e4 e5 Q0=>?_;subst Q0;refine _root_.PySem.wpAt_of_wpAny (wpAny_execs_cons (plainObj_wpAny_Assign_Attribute (k8 ro.deeper M F8 g6 g7 g24 lt ht H8 fun μ9 v9 s9 P9 H9 r9=>(F8.stp P9 H8.off).name ls fun u ru=>az (iJ D H9 ru hafter e3 (hat _ (.head _)) e5 e4 r9) (fun ζ s10 hs10=>?_) fun ζ ζ z=>z)));refine bl hs10 fun P10 H10=>?_;clear hs10;have F10:=(F8.stp P9 H8.off).stp P10 H9.off;refine az (v8 D g26 (fun y hy=>hat y (.tail _ hy)) (aa (List.map_fst_zip (GD hlen) ..) (by rfl)) lys F10 ls hself2 H10 e2) (fun f s11 hs11=>?_) fun ζ ζ z=>z;refine fi hs11 fun Q1 P11 H11=>?_;clear hs11;subst Q1;exact ⟨μ9,rfl,((((P1.trans P3).trans P38).trans P9).trans P10).trans P11,H11.drop fun ζ z=>.inl z⟩
theorem nu {C f:Addr}{kind:Str}{ys:List Str}{t vs:List V}{nv v:V}{args:List Value}(D:Wd K base c) (M:Mk prog K base c.G) (F:kb prog K c.G C f kind ys) (hP:fb prog w K base c k)
  (hat:∀ y∈T "taken" ::ys,c.att C y=true) (ht:t.length<=lim) (hlen:ys.length=vs.length) (hn:lk (T "n") (ys.zip vs)=some nv)
  (h:gw c.Φ C kind t nv ((T "taken",.tup t)::ys.zip vs) Z=some (v,Z')) (ro:bY A (k+2)) (H:aS prog w X μ s.heap base Z) (rs:aG X μ s.heap (.tup t::vs) args) :
  codeAny (model prog w) A (.call (.ref C) ⟨args,[]⟩) (tW prog w base X μ s Z' v) s:=by
 refine dv h fun Z1 h1 h2=>?_;clear h;refine bA h1 fun v0 Z2 h3 h4=>?_;clear h1;have hv:v0=.none/\Z2=Z1:=by induction v0 using V.casesOn<;>first | (refine bp h4 ?_;exact ⟨rfl,rfl⟩) | exact aw h4
 refine bl hv fun Q0 Q1=>?_;clear hv;subst Q0;subst Q1;split at h2
 ·rename_i hi;refine eu h2 fun Z3 h5 h6=>?_;clear h2;refine eU h6 ?_;have hafter:Z2[Z.length+1]?=some (.inst C Z.length):=by
   unfold lU at hi;split at hi
   ·rename_i e;simp only [Bool.and_eq_true,beq_iff_eq] at hi;exact aa (e ..) (aa (hi.1 ..) (aa (hi.2 ..) rfl))
   ·exact aM hi
  have hself:(bare C Z)[Z.length+1]?=some (.inst C Z.length):=by
   unfold bare;refine aa (List.getElem?_append_right (Nat.le_succ _) ..) (aa (Nat.succ_sub (aU _) ..) (aa (Nat.sub_self ..) ?_));rfl
  have KX:K.In s.heap:=fun a o e=>H.stays a o (D.KX a o e);refine bH (tR H C) fun μ1 pa Hd eb=>?_;obtain ⟨hh,g,d,t',os⟩:=s
  cases rs with
  | cons r rs =>
  refine make_core (makes_of KX F.make) (looks_findIn KX F.find) (fun self=>bind_fn KX self F.typ) (.inl rfl) ?_;refine codeAny_mono (zq (s:=⟨nU hh C,g,d,t',os⟩) D M F hP hat ht hlen hn hself hafter h3 h5 ro.creates Hd (.cons (.own eb) (.cons (r.stp pa) (rs.stp pa)))) fun r s' hr=>?_;refine bH hr fun μ2 Q2 pb He=>?_;clear hr;subst Q2;refine be (pb.ext.ext _ _ _ eb) fun b' ee=>?_;exact ⟨rfl,_,μ2,rfl,pa.trans pb,He,.own ee⟩
 ·exact aw h2
end
structure ya (prog:Program) (K:Frag):Prop where
 fns:∀ f ps b,fn f=some (ps,b)->keepIn K (.ref f)=true/\∃ sc,Ad K f sc ps b/\uj G0 sc ps b=true
 store:keepIn K (.ref 277)=true/\makesIn K 277=true/\findIn K (.ref 277) "__init__" =some (some (.ref 141))/\typeIn K (.ref 141)=some (.type "function")
 count:keepIn K (.ref 375)=true/\kb prog K G0 375 346 (T "values") [T "value",T "n"]
 nv:keepIn K (.ref 448)=true/\kb prog K G0 448 393 (T "weak") [T "n"]
theorem wg (n:Nat) (f:Addr) (vs:List V) (Z:ag):cV (n+1) f vs Z=(if f=277 then (match vs with | []=>((cV n 141 [.own (Z.length+1)] (bare 277 Z)).bind ti).map fun Z1=>(V.own (Z.length+1),Z1) | _=>none)
   else if f=375 then (match vs with
    | [.tup t,v,m]=>if t.length<=lim then gw (cV n) 375 (T "values") t m [(T "taken",.tup t),(T "value",v),(T "n",m)] Z else none
    | _=>none)
   else if f=448 then (match vs with
    | [.tup t,m]=>if t.length<=lim then gw (cV n) 448 (T "weak") t m [(T "taken",.tup t),(T "n",m)] Z else none
    | _=>none)
   else match fn f with
    | some (ps,b)=>if ps.length=vs.length then cL (keeps f) Z (cB (bD n) 200 (ps.zip vs) Z b) else none
    | none=>none):=rfl
section
variable {prog:Program}{w:World}{K:Frag}{base:Heap}
set_option tactic.hygienic true in
theorem wi (D:∀ n,Wd K base (bD n)) (M:Mk prog K base G0) (TX:ya prog K) (hn:T "value" ≠T "n") (ha:∀ y∈[T "taken",T "value",T "n"],iX 375 y=true/\iX 448 y=true):∀ n,fb prog w K base (bD n) (2*n)
 | 0=>fun f vs Z v Z' h=>by exact aw (show (none:Option (V×ag))=some (v,Z') from h)
 | n+1=>fun f vs Z v Z' h0=>by
  have IH:=wi D M TX hn ha n;have h:cV (n+1) f vs Z=some (v,Z'):=h0;clear h0;rw [wg] at h;by_cases q1:f=277
  ·rw [if_pos q1] at h;subst q1;refine ⟨TX.store.1,fun A ro X μ s args H rs=>?_⟩
   induction vs using OA with
   | nil =>
    cases rs
    exact rg (D n) IH TX.store.2.1 TX.store.2.2.1 TX.store.2.2.2 h (ro.less Ef) H
   | cons _ _=>exact aw h
  rw [if_neg q1] at h;by_cases q2:f=375
  ·rw [if_pos q2] at h;subst q2;refine ⟨TX.count.1,fun A ro X μ s args H rs=>?_⟩;split at h
   ·rename_i t v' m;refine bR h fun ht h=>?_
    exact nu (ys:=[T "value",T "n"]) (vs:=[v',m]) (D n) M TX.count.2 IH (fun y hy=>(ha y hy).1) ht rfl (by
     show lk (T "n") [(T "value",v'),(T "n",m)]=_;unfold lk;refine aa (if_neg hn ..) ?_;unfold lk;exact if_pos rfl) h ro H rs
   ·exact aw h
  rw [if_neg q2] at h;by_cases q3:f=448
  ·rw [if_pos q3] at h;subst q3;refine ⟨TX.nv.1,fun A ro X μ s args H rs=>?_⟩;split at h
   ·rename_i t m;refine bR h fun ht h=>?_
    exact nu (ys:=[T "n"]) (vs:=[m]) (D n) M TX.nv.2 IH (fun y hy=>(ha y (by
     simp only [List.mem_cons,List.not_mem_nil,or_false] at hy ⊢
     exact hy.elim .inl fun z=>.inr (.inr z))).2) ht rfl (by
     show lk (T "n") [(T "n",m)]=_;unfold lk;exact if_pos rfl) h ro H rs
   ·exact aw h
  rw [if_neg q3] at h
  induction hf:fn f using Oy with
  | none=>rw [hf] at h;exact aw h
  | some p =>
   obtain ⟨ps,b⟩:=p;rw [hf] at h;refine bl (TX.fns f ps b hf) fun hk Q0=>?_;refine aB (Q0) fun sc F hs=>?_;clear Q0;refine ⟨hk,fun A ro X μ s args H rs=>?_⟩;dsimp only at h;refine bR h fun hl h=>?_;exact zP (D n) IH F hs hl h (ro.less Ef) H rs
end
end Mine
end
section
open PySem
set_option maxRecDepth 100000
set_option tactic.hygienic false
namespace Mine
noncomputable def Xs (c:d8) (n:Nat) (ρ:aL) (Z:ag) (b:List Stmt) (Q:Fl->aL->ag->Prop):Prop:=∃ fl ρ' Z',cB c n ρ Z b=some (fl,ρ',Z')/\Q fl ρ' Z'
noncomputable def Lp (f:V->aL->ag->Option (Fl×aL×ag)) (l:List V) (ρ:aL) (Z:ag) (Q:Fl->aL->ag->Prop):Prop:=∃ fl ρ' Z',iR f l ρ Z=some (fl,ρ',Z')/\Q fl ρ' Z'
noncomputable def Wh (c:d8) (n:Nat) (ρ:aL) (Z:ag) (t:Expr) (b:List Stmt) (p:Pos) (Q:Fl->aL->ag->Prop):Prop:=∃ fl ρ' Z',ex c n ρ Z (.While t b [] p)=some (fl,ρ',Z')/\Q fl ρ' Z'
noncomputable def Nx (P:aL->ag->Prop) (Q:Fl->aL->ag->Prop):Fl->aL->ag->Prop
 | .next,ρ,Z=>P ρ Z
 | .ret w,ρ,Z=>Q (.ret w) ρ Z
noncomputable def gF (c:d8) (n:Nat) (t:Expr) (b:List Stmt) (x:V) (ρ:aL) (Z:ag):Option (Fl×aL×ag):=(b6 t x ρ).bind fun ρ=>cB c n ρ Z b
section
variable {c:d8}{n:Nat}{ρ ρ':aL}{Z Z1 Z2 Z':ag}{p p':Pos}{e t it o l r:Expr}{b bt bf rest:List Stmt}{v w:V}{Q:Fl->aL->ag->Prop}{vs ws:List V}
theorem Xs.mono {Q':Fl->aL->ag->Prop}(h:Xs c n ρ Z b Q) (k:∀ fl ρ' Z',Q fl ρ' Z'->Q' fl ρ' Z'):Xs c n ρ Z b Q':=let ⟨a,b,d,e,q⟩:=h;⟨a,b,d,e,k _ _ _ q⟩
theorem aY (h:Q .next ρ Z):Xs c (n+1) ρ Z [] Q:=⟨_,_,_,rfl,h⟩
theorem gJ {s:Stmt}{fl:Fl}(hz:c.frz s.pos.line=[]) (h1:ex c n ρ Z s=some (fl,ρ',Z')) (h:Nx (fun ρ Z=>Xs c n ρ Z rest Q) Q fl ρ' Z'):Xs c (n+1) ρ Z (s::rest) Q:=by
 have e:cB c (n+1) ρ Z (s::rest)=(ex c n (fh ρ Z (c.frz s.pos.line)).1 (fh ρ Z (c.frz s.pos.line)).2 s).bind fun (fl,ρ,Z)=>match fl with
  | .next=>cB c n ρ Z rest
  | .ret w=>some (.ret w,ρ,Z):=rfl
 unfold Xs;refine aa (e ..) (aa (hz ..) ?_);show ∃ fl ρ' Z',(ex c n ρ Z s).bind _=_/\_;refine aa (h1 ..) ?_
 induction fl using Fl.casesOn with
 | next=>exact h
 | ret w=>exact ⟨_,_,_,rfl,h⟩
theorem bo (hz:c.frz p.line=[]) (h:ev c n ρ Z e=some (v,Z')) (q:Q (.ret v) ρ Z'):Xs c (n+2) ρ Z (.Return (some e) p::rest) Q :=
 gJ hz (show (ev c n ρ Z e).map (fun (v,Z)=>(Fl.ret v,ρ,Z))=some (.ret v,ρ,Z') by refine aa (h ..) ?_;rfl) q
theorem cJ (hz:c.frz p.line=[]) (h:ev c n ρ Z e=some (v,Z')) (q:Xs c (n+1) ρ Z' rest Q):Xs c (n+2) ρ Z (.Expr e p::rest) Q :=
 gJ hz (show (ev c n ρ Z e).map (fun (_,Z)=>(Fl.next,ρ,Z))=some (.next,ρ,Z') by refine aa (h ..) ?_;rfl) q
theorem bu (hz:c.frz p.line=[]) (h:ev c n ρ Z e=some (v,Z1)) (h2:pn c n ρ Z1 v t=some (ρ',Z')) (q:Xs c (n+1) ρ' Z' rest Q):Xs c (n+2) ρ Z (.Assign [t] e p::rest) Q :=
 gJ hz (show (ev c n ρ Z e).bind (fun (v,Z)=>(pn c n ρ Z v t).map fun (ρ,Z)=>(Fl.next,ρ,Z))=some (.next,ρ',Z') by refine aa (h ..) ?_;show (pn c n ρ Z1 v t).map _=_;refine aa (h2 ..) ?_;rfl) q
theorem fR {es:List Expr}{a:Nat}{q:Pos}(h:b6 (.Tuple es a q) v ρ=some ρ'):pn c n ρ Z v (.Tuple es a q)=some (ρ',Z):=by
 show (b6 (.Tuple es a q) v ρ).map _=_;refine aa (h ..) ?_;rfl
theorem bW {d:Bool}(hz:c.frz p.line=[]) (h:ev c n ρ Z t=some (.bool d,Z1)) (ht:d=true->Xs c n ρ Z1 bt (Nx (fun ρ Z=>Xs c (n+1) ρ Z rest Q) Q)) (hf:d=false->Xs c n ρ Z1 bf (Nx (fun ρ Z=>Xs c (n+1) ρ Z rest Q) Q)):Xs c (n+2) ρ Z (.If t bt bf p::rest) Q:=by
 have e:ex c (n+1) ρ Z (.If t bt bf p)=(ev c n ρ Z t).bind fun (v,Z)=>match v with | .bool true=>cB c n ρ Z bt | .bool false=>cB c n ρ Z bf | _=>none:=rfl;rw [h] at e
 induction d using Oz with
 | true=>refine cp (ht rfl) fun fl ρ' Z' h1 h2=>?_;exact gJ hz (e.trans h1) h2
 | false=>refine cp (hf rfl) fun fl ρ' Z' h1 h2=>?_;exact gJ hz (e.trans h1) h2
theorem dg (hz:c.frz p.line=[]) (hi:iG it=none) (h:ev c n ρ Z it=some (v,Z1)) (h2:items v=some vs) (q:Lp (gF c n t b) vs ρ Z1 (Nx (fun ρ Z=>Xs c (n+1) ρ Z rest Q) Q)):Xs c (n+2) ρ Z (.For t it b [] p::rest) Q:=by
 refine cp q fun fl ρ' Z' h3 h4=>?_;clear q;refine gJ hz (fl:=fl) (ρ':=ρ') (Z':=Z') ?_ h4;show (match iG it with
  | some (e1,e2)=>_
  | none=>(ev c n ρ Z it).bind fun (v,Z)=>(items v).bind fun l=>iR (fun x ρ Z=>(b6 t x ρ).bind fun ρ=>cB c n ρ Z b) l ρ Z)=_
 (rw [hi];refine aa (h ..) ?_);show (items v).bind _=_;refine aa (h2 ..) ?_;exact h3
theorem i8 (hz:c.frz p.line=[]) (q:Wh c (n+1) ρ Z t b p (Nx (fun ρ Z=>Xs c (n+1) ρ Z rest Q) Q)):Xs c (n+2) ρ Z (.While t b [] p::rest) Q:=by
 refine cp q fun fl ρ' Z' h3 h4=>?_;clear q;exact gJ hz h3 h4
theorem wh {d:Bool}(h:ev c n ρ Z t=some (.bool d,Z1)) (ht:d=true->Xs c n ρ Z1 b (Nx (fun ρ Z=>Wh c n ρ Z t b p Q) Q)) (hf:d=false->Q .next ρ Z1):Wh c (n+1) ρ Z t b p Q:=by
 have e:ex c (n+1) ρ Z (.While t b [] p)=(ev c n ρ Z t).bind fun (v,Z)=>match v with
  | .bool true=>(cB c n ρ Z b).bind fun (fl,ρ,Z)=>(match fl with
   | .next=>ex c n ρ Z (.While t b [] p)
   | .ret w=>some (.ret w,ρ,Z))
  | .bool false=>some (.next,ρ,Z)
  | _=>none:=rfl
 rw [h] at e
 induction d using Oz with
 | false=>exact ⟨_,_,_,e,hf rfl⟩
 | true =>
  refine cp (ht rfl) fun fl ρ' Z' h1 h2=>?_;have e:ex c (n+1) ρ Z (.While t b [] p)=(cB c n ρ Z1 b).bind fun (fl,ρ,Z)=>(match fl with
   | .next=>ex c n ρ Z (.While t b [] p)
   | .ret w=>some (.ret w,ρ,Z)):=e
  rw [h1] at e
  induction fl using Fl.casesOn with
  | ret w=>exact ⟨_,_,_,e,h2⟩
  | next=>refine cp (h2) fun fl ρ'' Z'' h3 h4=>?_;clear h2;exact ⟨_,_,_,e.trans h3,h4⟩
theorem Bt {f:V->aL->ag->Option (Fl×aL×ag)}(h:Q .next ρ Z):Lp f [] ρ Z Q:=⟨_,_,_,rfl,h⟩
theorem y3 {x:V}(hb:b6 t x ρ=some ρ') (h:Xs c n ρ' Z b (Nx (fun ρ Z=>Lp (gF c n t b) vs ρ Z Q) Q)):Lp (gF c n t b) (x::vs) ρ Z Q:=by
 refine cp h fun fl ρc Z2 h1 h2=>?_;clear h;have e:iR (gF c n t b) (x::vs) ρ Z=(gF c n t b x ρ Z).bind fun (fl,ρ,Z)=>match fl with
  | .next=>iR (gF c n t b) vs ρ Z
  | .ret w=>some (.ret w,ρ,Z):=rfl
 have e1:gF c n t b x ρ Z=some (fl,ρc,Z2):=by unfold gF;refine aa (hb ..) ?_;exact h1
 rw [e1] at e
 induction fl using Fl.casesOn with
 | ret w=>exact ⟨_,_,_,e,h2⟩
 | next=>refine cp (h2) fun fl ρ'' Z'' h3 h4=>?_;clear h2;exact ⟨_,_,_,e.trans h3,h4⟩
theorem cm {α:Type}{enc:α->V}(I:List α->aL->ag->Prop) {l:List α}(h0:I l ρ Z) (hn:∀ ρ Z,I [] ρ Z->Q .next ρ Z) (hs:∀ x r ρ Z,I (x::r) ρ Z->∃ ρa,b6 t (enc x) ρ=some ρa/\Xs c n ρa Z b (Nx (fun ρ Z=>I r ρ Z) Q)):Lp (gF c n t b) (l.map enc) ρ Z Q:=by
 induction l generalizing ρ Z with
 | nil=>exact Bt (hn _ _ h0)
 | cons x r ih =>
  refine aB (hs x r ρ Z h0) fun ρa h1 h2=>?_;refine y3 h1 (h2.mono fun fl ρ' Z' q=>?_)
  induction fl using Fl.casesOn with
  | next=>exact ih q
  | ret w=>exact q
theorem cF {op:Operator}(h1:ev c n ρ Z l=some (v,Z1)) (h2:ev c n ρ Z1 r=some (w,Z2)) {u:V}(h3:ft op v w=some u):ev c (n+1) ρ Z (.BinOp l op r p)=some (u,Z2):=by
 show (ev c n ρ Z l).bind _=_;refine aa (h1 ..) ?_;show (ev c n ρ Z1 r).bind _=_;refine aa (h2 ..) ?_;show (ft op v w).map _=_;refine aa (h3 ..) ?_;rfl
theorem bq {op:CmpOp}{d:Bool}(h1:ev c n ρ Z l=some (v,Z1)) (h2:ev c n ρ Z1 r=some (w,Z2)) (h3:mj Z2 op v w=some d):ev c (n+1) ρ Z (.Compare l [op] [r] p)=some (.bool d,Z2):=by
 show (ev c n ρ Z l).bind _=_;refine aa (h1 ..) ?_;show (ev c n ρ Z1 r).bind _=_;refine aa (h2 ..) ?_;show (mj Z2 op v w).map _=_;refine aa (h3 ..) ?_;rfl
theorem di {d:Bool}(h1:ev c n ρ Z e=some (.bool d,Z1)):ev c (n+1) ρ Z (.UnaryOp .Not e p)=some (.bool (!d),Z1):=by
 show (ev c n ρ Z e).bind _=_;refine aa (h1 ..) ?_;rfl
theorem oR {d:Bool}(h1:ev c n ρ Z t=some (.bool d,Z1)) (h2:d=true->ev c n ρ Z1 l=some (v,Z2)) (h3:d=false->ev c n ρ Z1 r=some (v,Z2)):ev c (n+1) ρ Z (.IfExp t l r p)=some (v,Z2):=by
 show (ev c n ρ Z t).bind _=_;refine aa (h1 ..) ?_
 induction d using Oz with
 | true=>exact h2 rfl
 | false=>exact h3 rfl
theorem fP {d d':Bool}(h1:ev c (n+1) ρ Z l=some (.bool d,Z1)) (h2:d=true->ev c n ρ Z1 r=some (.bool d',Z2)) (h3:d=false->Z2=Z1/\d'=false):ev c (n+3) ρ Z (.BoolOp .And [l,r] p)=some (.bool (d&&d'),Z2):=by
 show (ev c (n+1) ρ Z l).bind _=_;refine aa (h1 ..) ?_
 induction d using Oz with
 | true =>
  show (ev c n ρ Z1 r).bind _=_;refine aa (h2 rfl ..) ?_;rfl
 | false=>refine bl (h3 rfl) fun Q0 Q1=>?_;subst Q0;subst Q1;rfl
theorem rX {d d':Bool}(h1:ev c (n+1) ρ Z l=some (.bool d,Z1)) (h2:d=false->ev c n ρ Z1 r=some (.bool d',Z2)) (h3:d=true->Z2=Z1/\d'=true):ev c (n+3) ρ Z (.BoolOp .Or [l,r] p)=some (.bool (d||d'),Z2):=by
 show (ev c (n+1) ρ Z l).bind _=_;refine aa (h1 ..) ?_
 induction d using Oz with
 | false =>
  show (ev c n ρ Z1 r).bind _=_;refine aa (h2 rfl ..) ?_;rfl
 | true=>refine bl (h3 rfl) fun Q0 Q1=>?_;subst Q0;subst Q1;rfl
theorem Ba {v' w':V}{j:Int}{k:Nat}(hs:bO Z v'=some vs) (hl:vs.length<=lim) (hk:cy j vs.length=some k) (hw:vs[k]?=some w') :
  ((bO Z v').bind fun l=>if l.length<=lim then (cy j l.length).bind fun k=>(l[k]?).map (·,Z) else none)=some (w',Z):=by
 refine aa (hs ..) ?_;show (if vs.length<=lim then _ else _)=_;refine aa (if_pos hl ..) (aa (hk ..) ?_);show (vs[k]?).map _=_;refine aa (hw ..) ?_;rfl
noncomputable def BN:Expr->Bool
 | .Slice ..=>false
 | _=>true
theorem bI {w':V}{j:Int}{k:Nat}(hi:BN r=true) (h1:ev c n ρ Z l=some (v,Z1)) (h2:ev c n ρ Z1 r=some (.int j,Z2)) (hs:bO Z2 v=some vs) (hl:vs.length<=lim) (hk:cy j vs.length=some k) (hw:vs[k]?=some w') :
  ev c (n+1) ρ Z (.Subscript l r p)=some (w',Z2):=by
 have e:ev c (n+1) ρ Z (.Subscript l r p)=(ev c n ρ Z l).bind fun (v,Z)=>(ev c n ρ Z r).bind fun (w,Z)=>match w with
  | .int j=>(bO Z v).bind fun l=>if l.length<=lim then (cy j l.length).bind fun k=>(l[k]?).map (·,Z) else none
  | .str x=>(match v with
   | .own k=>(match Z[k]? with | some (.sdct fs)=>(lk x fs).map (·,Z) | _=>none)
   | _=>none)
  | _=>none:=by induction r using Expr.casesOn<;>first | rfl | exact aM hi
 refine aa (e ..) (aa (h1 ..) ?_);show (ev c n ρ Z1 r).bind _=_;refine aa (h2 ..) ?_;exact Ba hs hl hk hw
theorem pj {x:V}{l:List V}:cy 0 (x::l).length=some 0:=by
 unfold cy;refine aa (if_pos (by decide) ..) (aa (if_pos (by simp) ..) ?_);rfl
theorem pi {j:Nat}{m:Nat}(h:j<m):cy (j:Int) m=some j:=by
 unfold cy;exact aa (if_pos (Int.natCast_nonneg j) ..) (aa (Int.toNat_natCast ..) (aa (if_pos h ..) rfl))
theorem M7 {m:Nat}:cy (-1) (m+1)=some m:=by
 unfold cy;refine aa (if_neg (by decide) ..) (aa (if_pos HD ..) ?_);congr 1;exact HC
theorem gC {α:Type}{enc:α->V}{f:V->ag->Option (List V×ag)}{g:α->List V}:∀ {l:List α},(∀ x∈l,f (enc x) Z=some (g x,Z))->cz f (l.map enc) Z=some (l.flatMap g,Z)
 | [],_=>rfl
 | x::l,h=>by
  show (f (enc x) Z).bind _=_;refine aa (h x (.head _) ..) ?_;show (cz f (l.map enc) Z).map _=_;refine aa (gC fun y hy=>h y (.tail _ hy) ..) ?_;rfl
noncomputable def iI (c:d8) (n:Nat) (ρ:aL) (t elt:Expr) (ifs:List Expr) (x:V) (Z:ag):Option (List V×ag) :=
 (b6 t x ρ).bind fun ρ'=>(tI c n ρ' Z ifs).bind fun (b,Z)=>if b then (ev c n ρ' Z elt).map fun (y,Z)=>([y],Z) else some ([],Z)
theorem ce {elt:Expr}{ifs:List Expr}{x y:V}{d:Bool}(hb:b6 t x ρ=some ρ') (h1:tI c n ρ' Z ifs=some (d,Z)) (h2:d=true->ev c n ρ' Z elt=some (y,Z)):iI c n ρ t elt ifs x Z=some (if d then [y] else [],Z):=by
 unfold iI;refine aa (hb ..) ?_;show (tI c n ρ' Z ifs).bind _=_;refine aa (h1 ..) ?_
 induction d using Oz with
 | true=>show (ev c n ρ' Z elt).map _=_;refine aa (h2 rfl ..) ?_;rfl
 | false=>rfl
theorem kD:tI c (n+1) ρ Z []=some (true,Z):=rfl
theorem fG {d:Bool}(h:ev c (n+1) ρ Z e=some (.bool d,Z)):tI c (n+2) ρ Z [e]=some (d,Z):=by
 show (ev c (n+1) ρ Z e).bind _=_;refine aa (h ..) ?_;induction d using Oz<;>rfl
theorem cN {elt:Expr}{ifs:List Expr}{s:Scope}{α:Type}{enc:α->V}{as:List α}{g:α->List V}(h1:ev c n ρ Z it=some (v,Z1)) (h2:items v=some (as.map enc)) (h3:∀ x∈as,iI c n ρ t elt ifs (enc x) Z1=some (g x,Z1)) (ho:c.owned p.line=false) :
  ev c (n+1) ρ Z (.ListComp elt [⟨t,it,ifs,0⟩] s p)=some (.lst (as.flatMap g),Z1):=by
 show (ev c n ρ Z it).bind _=_;refine aa (h1 ..) ?_;show (items v).bind _=_;refine aa (h2 ..) ?_;show (cz (iI c n ρ t elt ifs) (as.map enc) Z1).map _=_;refine aa (gC h3 ..) ?_;show some (if c.owned p.line then _ else _)=_;refine aa (ho ..) ?_;rfl
theorem bx {x:Str}{a:Addr}{as:List Expr}(h0:ev c n ρ Z (.Name x default)=some (.raw (.ref a),Z)) (h1:evs c n ρ Z as=some (vs,Z1)) (h2:c.Φ a vs Z1=some (v,Z2)):ev c (n+1) ρ Z (.Call (.Name x p) as [] p')=some (v,Z2):=by
 show (ev c n ρ Z (.Name x default)).bind _=_;refine aa (h0 ..) ?_;show (evs c n ρ Z as).bind _=_;refine aa (h1 ..) ?_;exact h2
theorem cW {i:String}{x:Str}{as:List Expr}(h0:ev c n ρ Z (.Name x default)=some (.raw (.builtin i),Z)) (h1:evs c n ρ Z as=some (vs,Z1)) (h2:eG Z1 (.builtin i) vs=some v):ev c (n+1) ρ Z (.Call (.Name x p) as [] p')=some (v,Z1):=by
 show (ev c n ρ Z (.Name x default)).bind _=_;refine aa (h0 ..) ?_;show (evs c n ρ Z as).bind _=_;refine aa (h1 ..) ?_;show (eG Z1 (.builtin i) vs).map _=_;refine aa (h2 ..) ?_;rfl
theorem fj {i:String}{x:Str}{as:List Expr}(h0:ev c n ρ Z (.Name x default)=some (.raw (.type i),Z)) (h1:evs c n ρ Z as=some (vs,Z1)) (h2:eG Z1 (.type i) vs=some v):ev c (n+1) ρ Z (.Call (.Name x p) as [] p')=some (v,Z1):=by
 show (ev c n ρ Z (.Name x default)).bind _=_;refine aa (h0 ..) ?_;show (evs c n ρ Z as).bind _=_;refine aa (h1 ..) ?_;show (eG Z1 (.type i) vs).map _=_;refine aa (h2 ..) ?_;rfl
theorem b0:evs c (n+1) ρ Z []=some ([],Z):=rfl
theorem ap {as:List Expr}(h1:ev c n ρ Z e=some (v,Z1)) (h2:evs c n ρ Z1 as=some (vs,Z2)):evs c (n+1) ρ Z (e::as)=some (v::vs,Z2):=by
 show (ev c n ρ Z e).bind _=_;refine aa (h1 ..) ?_;show (evs c n ρ Z1 as).map _=_;refine aa (h2 ..) ?_;rfl
theorem am (h1:ev c (n+1) ρ Z e=some (v,Z1)):evs c (n+2) ρ Z [e]=some ([v],Z1):=ap h1 b0
theorem cj (h:vs.length<=lim):items (.tup vs)=some vs:=if_pos h
theorem bB (h:vs.length<=lim):items (.lst vs)=some vs:=if_pos h
theorem dz {es:List Expr}(h1:evs c n ρ Z es=some (vs,Z1)) (ho:c.owned p.line=true):ev c (n+1) ρ Z (.List es p)=some (.own Z1.length,Z1++[.lst vs]):=by
 show (evs c n ρ Z es).map _=_;refine aa (h1 ..) ?_;show some (if c.owned p.line then _ else _)=_;refine aa (ho ..) ?_;rfl
theorem c9 {k:Nat}{m:Str}{as:List Expr}(h1:ev c n ρ Z o=some (.own k,Z1)) (h2:Z1[k]?=some (.lst ws)) (h3:evs c n ρ Z1 as=some (vs,Z2)) {l':List V}(h4:Z2[k]?=some (.lst l')) (h5:l'.length<=lim) (h6:cY m vs Z2 k l'=some (v,Z')) :
  ev c (n+1) ρ Z (.Call (.Attribute o m p) as [] p')=some (v,Z'):=by
 show (ev c n ρ Z o).bind (fun (v,Z)=>(gx c Z m v).bind fun t=>(evs c n ρ Z as).bind fun (vs,Z)=>gu c m vs Z t)=_;refine aa (h1 ..) ?_;show (gx c Z1 m (.own k)).bind _=_;have e:gx c Z1 m (.own k)=some (.cell k):=by unfold gx;dsimp only;exact aa (h2 ..) rfl
 refine aa (e ..) ?_;show (evs c n ρ Z1 as).bind _=_;refine aa (h3 ..) ?_;show (match Z2[k]? with | some (.lst l)=>if l.length<=lim then cY m vs Z2 k l else none | _=>none)=_;refine aa (h4 ..) ?_;show (if l'.length<=lim then cY m vs Z2 k l' else none)=_;exact aa (if_pos h5 ..) (aa (h6 ..) rfl)
theorem cK {k:Nat}:cY (T "append") [v] Z k ws=some (.none,Z.set k (.lst (ws++[v]))):=rfl
theorem ux {k:Nat}:cY (T "extend") [v] Z k ws=(match v with
   | .rng a b=>(items (.rng a b)).map fun r=>(V.none,Z.set k (.lst (ws++r)))
   | x=>(bO Z x).bind fun r=>if r.length<=lim then some (.none,Z.set k (.lst (ws++r))) else none):=rfl
theorem pX {k:Nat}(h:bO Z v=some vs) (hl:vs.length<=lim):cY (T "extend") [v] Z k ws=some (.none,Z.set k (.lst (ws++vs))):=by
 refine aa (ux ..) ?_
 induction v using V.casesOn with
 | rng a b=>exact aw h
 | _=>show (bO Z _).bind _=_;refine aa (h ..) ?_;exact if_pos hl
theorem uw {k:Nat}{a b:Int}(h:items (.rng a b)=some vs):cY (T "extend") [.rng a b] Z k ws=some (.none,Z.set k (.lst (ws++vs))):=by
 show (items (.rng a b)).map _=_;refine aa (h ..) ?_;rfl
theorem Am {k:Nat}:cY (T "pop") [] Z k (ws++[v])=some (v,Z.set k (.lst ws)):=by
 show ((ws++[v]).getLast?).map (fun x=>(x,Z.set k (.lst (ws++[v]).dropLast)))=_;refine aa (List.getLast?_concat ..) (aa (List.dropLast_concat ..) ?_);rfl
theorem bJ {cl:Cell}:(Z++[cl])[Z.length]?=some cl:=by simp
theorem eP {cl cl':Cell}:(Z++[cl]).set Z.length cl'=Z++[cl']:=by simp
theorem dy {a b:Int}(h:a.natAbs<=lim/\b.natAbs<=lim):items (.rng a b)=some ((List.range (b - a).toNat).map fun i:Nat=>V.int (a+(i:Int))):=if_pos h
end
noncomputable abbrev Dm:=List (Int×Int)
noncomputable def b9 (p:Int×Int):V:=.tup [.int p.1,.int p.2]
noncomputable def bN (d:Dm):V:=.tup (d.map b9)
noncomputable def dI (Z:ag):Prop:=Z.all (mN Z.length)=true
mutual
theorem sO (Z:ag):∀ (v:V),cO Z.length v=true->f9 Z Z.length v=v
 | .own _,h=>if_neg (Nat.not_le_of_lt (ao h))
 | .none,_ | .bool _,_ | .int _,_ | .str _,_ | .tup _,_ | .lst _,_ | .rng _ _,_ | .raw _,_=>rfl
end
theorem pv (Z:ag):∀ (l:List V),dA Z.length l=true->l.map (f9 Z Z.length)=l
 | [],_=>rfl
 | v::r,h=>by
  have h:=ay.mp h;exact aa (List.map_cons ..) (aa (sO Z v h.1 ..) (aa (pv Z r h.2 ..) rfl))
theorem px {Z:ag}{v:V}(h:cO Z.length v=true):gI Z Z.length v=v:=by
 induction v using V.casesOn with
 | tup l=>exact congrArg V.tup (pv Z l h)
 | _=>exact sO Z _ h
theorem uO {e:Option (Fl×aL×ag)}{Z:ag}{v:V}{fl:Fl}{ρ:aL}(ho:dI Z) (h:e=some (fl,ρ,Z)) (hv:jK fl=v) (hk:cO Z.length v=true):cL false Z e=some (v,Z):=by
 subst hv;refine aa (h ..) ?_;show (if false=true then some (jK fl,Z) else if (Z.take Z.length).all (mN Z.length)&&cO Z.length (gI Z Z.length (jK fl)) then some (gI Z Z.length (jK fl),Z.take Z.length) else none)=_;refine aa (if_neg (by simp) ..) (aa (px hk ..) (aa (List.take_length ..) (aa (hk ..) (aa (Bool.and_true ..) ?_))));exact if_pos ho
theorem bS {c:d8}{n:Nat}{ρ:aL}{Z:ag}{b:List Stmt}{v:V}(ho:dI Z) (hk:cO Z.length v=true) (h:Xs c n ρ Z b fun fl ζ Z'=>jK fl=v/\Z'=Z):cL false Z (cB c n ρ Z b)=some (v,Z):=by
 refine dm h fun fl ρ' Z' h1 h2 Q0=>?_;clear h;subst Q0;exact uO ho h1 h2 hk
theorem lO {c:d8}{n:Nat}{ρ:aL}{Z:ag}{b:List Stmt}{v:V}(ho:dI Z) (hk:cO Z.length v=true) (h:Xs c n ρ Z b fun fl ζ Z'=>∃ cs,Z'=Z++cs/\gI Z' Z.length (jK fl)=v):cL false Z (cB c n ρ Z b)=some (v,Z):=by
 refine cp h fun fl ρ' Z' h1 Q0=>?_;clear h;refine aB (Q0) fun cs Q1 h2=>?_;clear Q0;subst Q1;refine aa (h1 ..) ?_;show (if false=true then some (jK fl,Z++cs) else if ((Z++cs).take Z.length).all (mN Z.length)&&cO Z.length (gI (Z++cs) Z.length (jK fl)) then some (gI (Z++cs) Z.length (jK fl),(Z++cs).take Z.length) else none)=_;refine aa (if_neg (by simp) ..) (aa (h2 ..) (aa (List.take_left ..) (aa (hk ..) (aa (Bool.and_true ..) ?_))));exact if_pos ho
theorem tE {Z:ag}{l:List V}:gI (Z++[.lst l]) Z.length (.own Z.length)=.lst l:=by
 show (if Z.length<=Z.length then (match (Z++[Cell.lst l])[Z.length]? with | some (.lst l)=>V.lst l | _=>.own Z.length) else .own Z.length)=_;exact aa (if_pos (aU _) ..) (aa (bJ ..) rfl)
theorem l7 {Z:ag}{n:Nat}{α:Type}{f:α->V}(h:∀ x,f9 Z n (f x)=f x) (l:List α):gI Z n (.tup (l.map f))=.tup (l.map f):=by
 show V.tup ((l.map f).map (f9 Z n))=_;refine aa (List.map_map ..) ?_;congr 1;exact List.map_congr_left fun x ζ=>h x
theorem bw {α:Type}{f:α->V}{n:Nat}(h:∀ x,cO n (f x)=true):∀ l:List α,dA n (l.map f)=true
 | []=>rfl
 | x::r=>by show (cO n (f x)&&dA n (r.map f))=true;refine aa (h x ..) (aa (bw h r ..) ?_);rfl
theorem eT (n:Nat) (d:Dm):cO n (bN d)=true:=bw (fun ζ=>rfl) d
theorem dC {a b:V}:[a,b].length<=lim:=by simp [lim]
theorem eI {a b c:V}:[a,b,c].length<=lim:=by simp [lim]
section
variable {n:Nat}{Z:ag}
theorem lh {a b:Int}{d:Dm}(ho:dI Z) (hd:((a,b)::d).length<=lim):cV (n+1) 42 [bN ((a,b)::d)] Z=some (.int a,Z):=by
 show cL false Z (cB (bD n) 200 [(T "d",bN ((a,b)::d))] Z (bd 4))=_;refine bS ho rfl (bo rfl (bI rfl (bI rfl rfl rfl rfl (by simpa using hd) pj rfl) rfl rfl dC pj rfl) ⟨rfl,rfl⟩)
theorem kn {a b:Int}{d:Dm}(ho:dI Z) (hd:d.length<lim):cV (n+1) 49 [bN (d++[(a,b)])] Z=some (.int b,Z):=by
 show cL false Z (cB (bD n) 200 [(T "d",bN (d++[(a,b)]))] Z (bd 5))=_;have e1:((d++[(a,b)]).map b9).length=d.length+1:=by simp
 refine bS ho rfl (bo rfl (bI rfl (bI (j:= -1) (k:=d.length) rfl rfl rfl rfl (by exact aa (e1 ..) (hd)) (by exact aa (e1 ..) (M7)) (w':=b9 (a,b)) (by simp)) rfl rfl dC (k:=1) rfl rfl) ⟨rfl,rfl⟩)
noncomputable def Af (d:Dm):Int:=(d.map fun p=>p.2 - p.1+1).sum
theorem fF {α:Type}(f:α->Int):∀ l:List α,c7 (l.map fun x=>V.int (f x))=some (l.map f)
 | []=>rfl
 | x::r=>by show (c7 (r.map fun x=>V.int (f x))).map _=_;refine aa (fF f r ..) ?_;rfl
theorem mc {α β:Type}(f:α->β):∀ l:List α,(l.flatMap fun x=>[f x])=l.map f
 | []=>rfl
 | x::r=>by refine aa (List.flatMap_cons ..) (aa (mc f r ..) ?_);rfl
theorem yv {d:Dm}(ho:dI Z) (hd:d.length<=lim):cV (n+1) 54 [bN d] Z=some (.int (Af d),Z):=by
 show cL false Z (cB (bD n) 200 [(T "d",bN d)] Z (bd 6))=_;refine bS ho rfl (bo rfl (cW (i:= "sum") rfl (am (cN (enc:=b9) (as:=d) (g:=fun p=>[.int (p.2 - p.1+1)]) rfl (cj (by simpa using hd)) (fun p ζ=>ce (d:=true) rfl kD fun ζ=>rfl) rfl)) ?_) ⟨rfl,rfl⟩);refine aa (mc ..) ?_;show (if (d.map fun p=>V.int (p.2 - p.1+1)).length<=lim then (c7 (d.map fun p=>V.int (p.2 - p.1+1))).map fun a=>V.int a.sum else none)=_;refine aa (if_pos (by simpa using hd) ..) (aa (fF ..) ?_);rfl
noncomputable def fB:Dm->Int->Option Int
 | [],_=>none
 | (a,b)::d,v=>if v<=b then some (max a v) else fB d v
theorem yY {a b v:Int}{d:Dm}:fB ((a,b)::d) v=if v<=b then some (max a v) else fB d v:=rfl
noncomputable def uq:Option Int->V
 | none=>.none
 | some i=>.int i
theorem vn {n:Nat}(o:Option Int):cO n (uq o)=true:=by induction o using Oy<;>rfl
theorem og {d:Dm}{v:Int}(ho:dI Z) (hd:d.length<=lim):cV (n+1) 61 [bN d,.int v] Z=some (uq (fB d v),Z):=by
 show cL false Z (cB (bD n) 200 [(T "d",bN d),(T "v",.int v)] Z (bd 7))=_;refine bS ho (vn _) (dg rfl rfl rfl (cj (by simpa using hd)) ?_)
 let E:Option (Int×Int)->aL:=fun o=>match o with | none=>[(T "d",bN d),(T "v",.int v)] | some (a,b)=>[(T "d",bN d),(T "v",.int v),(T "low",.int a),(T "high",.int b)]
 refine cm (enc:=b9) (fun r ρ Z'=>Z'=Z/\(∃ o,ρ=E o)/\fB r v=fB d v) ⟨rfl,⟨none,rfl⟩,rfl⟩ ?_ ?_
 ·intro ρ;intro _;intro Q0;refine fi (Q0) fun Q1 ζ h=>?_;clear Q0;subst Q1;exact bo rfl rfl ⟨by refine aa (aH (h ..)) ?_;rfl,rfl⟩
 ·rintro ⟨a,b⟩ r ρ _ ⟨rfl,⟨o,rfl⟩,h⟩
  refine ⟨E (some (a,b)),by induction o using Oy<;>rfl,bW rfl (bq rfl rfl rfl) (fun hb=>?_) fun hb=>aY (aY ⟨rfl,⟨some (a,b),rfl⟩,?_⟩)⟩
  ·exact bo rfl rfl ⟨by refine aa (aH (h ..)) ?_;refine aa (yY ..) (aa (if_pos (ao hb) ..) ?_);rfl,rfl⟩
  ·refine aa (aH (h ..)) ?_;exact (if_neg (of_decide_eq_false hb)).symm
theorem yS {o:Option Int}{v:Int}:u9 (uq o) (.int v)=some (decide (o=some v)):=by
 induction o using Oy with
 | none=>rfl
 | some i =>
  show some (PyData.eqv (.int i) (.int v))=_;simp [PyData.eqv,BEq.beq]
theorem yO (o:Option Int):rd Z (uq o)=uq o:=by induction o using Oy<;>rfl
noncomputable def Mo (d:Dm) (v:Int):Bool:=decide (fB d v=some v)
theorem Bc {d:Dm}{v:Int}(ho:dI Z) (hd:d.length<=lim):cV (n+2) 68 [bN d,.int v] Z=some (.bool (Mo d v),Z):=by
 show cL false Z (cB (bD (n+1)) 200 [(T "d",bN d),(T "v",.int v)] Z (bd 8))=_;exact bS ho rfl (bo rfl (bq (bx rfl (ap rfl (am rfl)) (og ho hd)) rfl (by show u9 (rd Z (uq _)) (.int v)=_;refine aa (yO ..) ?_;exact yS)) ⟨rfl,rfl⟩)
noncomputable def vals (d:Dm):List Int:=d.flatMap fun p=>(List.range (p.2+1 - p.1).toNat).map fun i:Nat=>p.1+(i:Int)
noncomputable def small (d:Dm):Prop:=d.length<=100/\∀ p∈d,p.1.natAbs<=100/\p.2.natAbs<=100
theorem t8 {d:Dm}(ho:dI Z) (hd:small d) (hv:(vals d).length<=10000):cV (n+1) 75 [bN d] Z=some (.lst ((vals d).map .int),Z):=by
 show cL false Z (cB (bD n) 200 [(T "d",bN d)] Z (bd 10))=_;have hl:lim=1000000:=rfl;refine lO ho (bw (fun ζ=>rfl) _) (bu rfl (dz b0 rfl) (ρ':=[(T "d",bN d),(T "found",.own Z.length)]) rfl (dg rfl rfl rfl (cj (by have:=hd.1;simp;exact KY hl this)) ?_))
 let E:Option (Int×Int)->aL:=fun o=>match o with | none=>[(T "d",bN d),(T "found",.own Z.length)] | some (a,b)=>[(T "d",bN d),(T "found",.own Z.length),(T "low",.int a),(T "high",.int b)]
 refine cm (enc:=b9) (fun r ρ Z'=>(∃ o,ρ=E o)/\∃ done,Z'=Z++[.lst ((vals done).map .int)]/\done++r=d) ⟨⟨none,rfl⟩,[],rfl,rfl⟩ ?_ ?_
 ·rintro ρ _ ⟨⟨o,rfl⟩,done,rfl,h⟩
  rw [List.append_nil] at h;subst h;exact bo (v:=.own Z.length) rfl (bz o rfl fun ζ=>rfl) ⟨_,rfl,tE⟩
 ·rintro ⟨a,b⟩ r ρ _ ⟨⟨o,rfl⟩,done,rfl,h⟩
  have hm:=hd.2 (a,b) (by refine aa (aH (h ..)) ?_;simp);have hlen:((vals done).map V.int).length<=lim:=by
   have:(vals d).length=(vals done).length+(vals ((a,b)::r)).length:=by rw [← h];unfold vals;exact aa (List.flatMap_append ..) (aa (ai ..) rfl)
   simp only [ah];exact KW hv hl this
  refine ⟨E (some (a,b)),by induction o using Oy<;>rfl,cJ rfl (c9 rfl bJ (am (fj (i:= "range") rfl (ap rfl (am rfl)) rfl)) bJ hlen (uw (dy (by dsimp only at hm ⊢;exact KV hl hm)))) (aY ⟨⟨some (a,b),rfl⟩,done++[(a,b)],?_,by simpa using h⟩)⟩;refine aa (eP ..) ?_;unfold vals;simp [List.flatMap_append,Function.comp_def]
end
theorem xi {α β:Type}{g:α->List β}(h:∀ x,(g x).length<=1):∀ l:List α,(l.flatMap g).length<=l.length
 | []=>aU _
 | x::r=>by refine aa (List.flatMap_cons ..) (aa (ai ..) (aa (aR ..) (aa (Nat.add_comm ..) ?_)));exact Nat.add_le_add (xi h r) (h x)
theorem kQ {α:Type}(b:Bool) (x:α):(if b then [x] else []).length<=1:=by induction b using Oz<;>simp
theorem dM {n:Nat}(h:n<=100):n<=lim:=af h (by decide)
noncomputable def ym (d:Dm) (k:Int):Dm:=d.flatMap fun p=>if decide (p.1<=k) then [(p.1,min p.2 k)] else []
noncomputable def oK (d:Dm) (k:Int):Dm:=d.flatMap fun p=>if decide (k<=p.2) then [(max p.1 k,p.2)] else []
theorem wE {α β γ:Type}(f:β->γ) (g:α->List β) (l:List α):(l.flatMap g).map f=l.flatMap fun x=>(g x).map f:=by exact aa (List.map_flatMap ..) rfl
theorem zn {α β:Type}(f:α->β) (b:Bool) (x:α):(if b then [x] else []).map f=if b then [f x] else []:=by induction b using Oz<;>rfl
theorem nL {g:Int×Int->Bool}{f:Int×Int->Int×Int}(d:Dm):bN (d.flatMap fun p=>if g p then [f p] else [])=.tup (d.flatMap fun p=>if g p then [b9 (f p)] else []):=by
 unfold bN;refine aa (wE ..) ?_;simp only [zn]
theorem qM {Z:ag}{l:List V}(h:l.length<=lim):eG Z (.type "tuple") [.lst l]=some (.tup l):=if_pos h
theorem cG {Z:ag}{v:V}{l:List V}(hs:bO Z v=some l) (h:l.length<=lim):eG Z (.builtin "len") [v]=some (.int l.length):=by
 show (bO Z v).bind _=_;refine aa (hs ..) ?_;exact if_pos h
section
variable {n:Nat}{Z:ag}
theorem vp {d:Dm}{k:Int}(hd:d.length<=100):(ym d k).length<=100:=af (xi (fun ζ=>kQ _ _) d) hd
theorem rR {d:Dm}{k:Int}(hd:d.length<=100):(oK d k).length<=100:=af (xi (fun ζ=>kQ _ _) d) hd
theorem pE {d:Dm}{k:Int}(ho:dI Z) (hd:d.length<=100):cV (n+1) 80 [bN d,.int k] Z=some (bN (ym d k),Z):=by
 show cL false Z (cB (bD n) 200 [(T "d",bN d),(T "k",.int k)] Z (bd 11))=_;refine bS ho (eT _ _) (bo rfl (fj (i:= "tuple") rfl (am (cN (enc:=b9) (as:=d) (g:=fun p=>if decide (p.1<=k) then [b9 (p.1,min p.2 k)] else []) rfl (cj (by simpa using dM hd)) (fun p ζ=>ce rfl (fG (bq rfl rfl rfl)) fun ζ=>rfl) rfl)) (qM (dM (af (xi (fun ζ=>kQ _ _) d) hd)))) ⟨?_,rfl⟩);exact (nL d).symm
theorem lj {d:Dm}{k:Int}(ho:dI Z) (hd:d.length<=100):cV (n+1) 85 [bN d,.int k] Z=some (bN (oK d k),Z):=by
 show cL false Z (cB (bD n) 200 [(T "d",bN d),(T "k",.int k)] Z (bd 12))=_;refine bS ho (eT _ _) (bo rfl (fj (i:= "tuple") rfl (am (cN (enc:=b9) (as:=d) (g:=fun p=>if decide (k<=p.2) then [b9 (max p.1 k,p.2)] else []) rfl (cj (by simpa using dM hd)) (fun p ζ=>ce rfl (fG (bq rfl rfl rfl)) fun ζ=>rfl) rfl)) (qM (dM (af (xi (fun ζ=>kQ _ _) d) hd)))) ⟨?_,rfl⟩);exact (nL d).symm
noncomputable def sI (d:Dm) (v:Int):Dm:=ym d (v - 1)++oK d (v+1)
theorem AU {a b:Dm}(ha:a.length<=100) (hb:b.length<=100):ft .Add (bN a) (bN b)=some (bN (a++b)):=by
 show (if _ then some (V.tup (a.map b9++b.map b9)) else none)=_;refine aa (if_pos ⟨by simpa using dM ha,by simpa using dM hb⟩ ..) (aa (aH (aK ..)) ?_);rfl
theorem rh {d:Dm}{k:Int}(ho:dI Z) (hd:d.length<=100):cV (n+2) 92 [bN d,.int k] Z=some (bN (sI d k),Z):=by
 show cL false Z (cB (bD (n+1)) 200 [(T "d",bN d),(T "v",.int k)] Z (bd 13))=_;exact bS ho (eT _ _) (bo rfl (cF (bx rfl (ap rfl (am rfl)) (pE ho hd)) (bx rfl (ap rfl (am rfl)) (lj ho hd)) (AU (vp hd) (rR hd))) ⟨rfl,rfl⟩)
noncomputable def fm (k:Int):Dm->Dm
 | []=>[]
 | (a,b)::r=>(if max a k<=min b k then [(max a k,min b k)] else [])++if b<k then fm k r else []
end
mutual
noncomputable def nb:V->Bool
 | .none=>true
 | .int _=>true
 | .str _=>true
 | .tup l=>vb l
 | .lst l=>vb l
 | _=>false
noncomputable def vb:List V->Bool
 | []=>true
 | v::r=>nb v&&vb r
end
mutual
theorem md:∀ a b:V,nb a=true->nb b=true->(PyData.eqv (eH a) (eH b)=true↔a=b)
 | .none,b,_,hb=>by induction b using V.casesOn<;>first | exact (Bool.false_ne_true hb).elim | exact ⟨fun h=>aM h,fun h=>nomatch h⟩ | exact ⟨fun ζ=>rfl,fun ζ=>rfl⟩ | exact ⟨fun h=>congrArg _ (beq_iff_eq.mp h),fun h=>beq_iff_eq.mpr (V.int.inj h)⟩ | exact ⟨fun h=>congrArg _ (beq_iff_eq.mp h),fun h=>beq_iff_eq.mpr (V.str.inj h)⟩
 | .int i,b,_,hb=>by induction b using V.casesOn<;>first | exact (Bool.false_ne_true hb).elim | exact ⟨fun h=>aM h,fun h=>nomatch h⟩ | exact ⟨fun ζ=>rfl,fun ζ=>rfl⟩ | exact ⟨fun h=>congrArg _ (beq_iff_eq.mp h),fun h=>beq_iff_eq.mpr (V.int.inj h)⟩ | exact ⟨fun h=>congrArg _ (beq_iff_eq.mp h),fun h=>beq_iff_eq.mpr (V.str.inj h)⟩
 | .str i,b,_,hb=>by induction b using V.casesOn<;>first | exact (Bool.false_ne_true hb).elim | exact ⟨fun h=>aM h,fun h=>nomatch h⟩ | exact ⟨fun ζ=>rfl,fun ζ=>rfl⟩ | exact ⟨fun h=>congrArg _ (beq_iff_eq.mp h),fun h=>beq_iff_eq.mpr (V.int.inj h)⟩ | exact ⟨fun h=>congrArg _ (beq_iff_eq.mp h),fun h=>beq_iff_eq.mpr (V.str.inj h)⟩
 | .tup l,b,ha,hb=>by
  induction b using V.casesOn with
  | tup m=>exact (kR l m ha hb).trans ⟨fun h=>congrArg _ h,fun h=>V.tup.inj h⟩
  | _=>first | exact (Bool.false_ne_true hb).elim | exact ⟨fun h=>aM h,fun h=>nomatch h⟩ | exact ⟨fun ζ=>rfl,fun ζ=>rfl⟩ | exact ⟨fun h=>congrArg _ (beq_iff_eq.mp h),fun h=>beq_iff_eq.mpr (V.int.inj h)⟩ | exact ⟨fun h=>congrArg _ (beq_iff_eq.mp h),fun h=>beq_iff_eq.mpr (V.str.inj h)⟩
 | .lst l,b,ha,hb=>by
  induction b using V.casesOn with
  | lst m=>exact (kR l m ha hb).trans ⟨fun h=>congrArg _ h,fun h=>V.lst.inj h⟩
  | _=>first | exact (Bool.false_ne_true hb).elim | exact ⟨fun h=>aM h,fun h=>nomatch h⟩ | exact ⟨fun ζ=>rfl,fun ζ=>rfl⟩ | exact ⟨fun h=>congrArg _ (beq_iff_eq.mp h),fun h=>beq_iff_eq.mpr (V.int.inj h)⟩ | exact ⟨fun h=>congrArg _ (beq_iff_eq.mp h),fun h=>beq_iff_eq.mpr (V.str.inj h)⟩
 | .bool _,_,h,_ | .rng _ _,_,h,_ | .own _,_,h,_ | .raw _,_,h,_=>nomatch h
theorem kR:∀ a b:List V,vb a=true->vb b=true->(PyData.eqvAll (dD a) (dD b)=true↔a=b)
 | [],[],_,_=>⟨fun ζ=>rfl,fun ζ=>rfl⟩
 | [],_::_,_,_=>⟨fun h=>aM h,fun h=>nomatch h⟩
 | _::_,[],_,_=>⟨fun h=>aM h,fun h=>nomatch h⟩
 | x::xs,y::ys,ha,hb=>by
  have ha:=ay.mp ha;have hb:=ay.mp hb;exact ay.trans ⟨fun h=>by rw [(md x y ha.1 hb.1).mp h.1,(kR xs ys ha.2 hb.2).mp h.2],fun h=>⟨(md x y ha.1 hb.1).mpr (List.cons.inj h).1,(kR xs ys ha.2 hb.2).mpr (List.cons.inj h).2⟩⟩
end
noncomputable def ok (n:Nat) (v:V):Prop:=c6 n v=true/\nb v=true
theorem vj {a b:V}{d:Bool}(ha:ok 16 a) (hb:ok 16 b) (h:d=true↔a=b):u9 a b=some d:=by
 unfold u9;refine aa (if_pos ⟨ha.1,hb.1⟩ ..) ?_;congr 1;rw [Bool.eq_iff_iff,md a b ha.2 hb.2,h]
theorem vh {x:V}{l:List V}{d:Bool}(hx:ok 16 x) (hl:cw 16 l=true) (hn:vb l=true) (h:d=true↔x∈l):vi x l=some d:=by
 unfold vi;refine aa (if_pos ⟨hx.1,hl⟩ ..) ?_;congr 1;rw [Bool.eq_iff_iff,h,List.any_eq_true];have key:∀ l:List V,vb l=true->∀ y∈l,nb y=true:=by
  intro l
  induction l with
  | nil=>intro _ y hy;cases hy
  | cons a r ih =>
   intro hl y hy;have hl:=ay.mp hl
   cases hy with
   | head=>exact hl.1
   | tail _ h=>exact ih hl.2 y h
 constructor
 ·intro Q0;refine aB (Q0) fun y hy he=>?_;clear Q0;rw [md y x (key l hn y hy) hx.2] at he;exact he▸hy
 ·intro hy;exact ⟨x,hy,(md x x hx.2 hx.2).mpr rfl⟩
theorem mr {Z:ag}{a b a' b':V}{d:Bool}(h1:rd Z a=a') (h2:rd Z b=b') (ha:ok 16 a') (hb:ok 16 b') (h:d=true↔a'=b'):mj Z .Eq a b=some d:=by
 show u9 (rd Z a) (rd Z b)=_;refine aa (h1 ..) (aa (h2 ..) ?_);exact vj ha hb h
theorem mq {Z:ag}{a b a' b':V}{d:Bool}(h1:rd Z a=a') (h2:rd Z b=b') (ha:ok 16 a') (hb:ok 16 b') (h:d=true↔a'=b'):mj Z .NotEq a b=some (!d):=by
 show (u9 (rd Z a) (rd Z b)).map (!·)=_;refine aa (h1 ..) (aa (h2 ..) (aa (vj ha hb h ..) ?_));rfl
theorem MN {Z:ag}{x c:V}{l:List V}{d:Bool}(h1:bO Z c=some l) (hx:ok 16 x) (hl:cw 16 l=true) (hn:vb l=true) (h:d=true↔x∈l):mj Z .In x c=some d:=by
 show (bO Z c).bind (vi x)=_;refine aa (h1 ..) ?_;exact vh hx hl hn h
theorem nS {Z:ag}{x c:V}{l:List V}{d:Bool}(h1:bO Z c=some l) (hx:ok 16 x) (hl:cw 16 l=true) (hn:vb l=true) (h:d=true↔x∈l):mj Z .NotIn x c=some (!d):=by
 show ((bO Z c).bind (vi x)).map (!·)=_;refine aa (h1 ..) ?_;show (vi x l).map _=_;refine aa (vh hx hl hn h ..) ?_;rfl
theorem dG {Z:ag}{a b:Int}:mj Z .Eq (.int a) (.int b)=some (decide (a=b)):=mr (a':=.int a) (b':=.int b) rfl rfl ⟨rfl,rfl⟩ ⟨rfl,rfl⟩ (by simp)
theorem AQ {Z:ag}{a b:Int}:mj Z .NotEq (.int a) (.int b)=some (!decide (a=b)):=mq (a':=.int a) (b':=.int b) rfl rfl ⟨rfl,rfl⟩ ⟨rfl,rfl⟩ (by simp)
theorem zQ {Z:ag}{a b:Int}{d:Bool}(h:decide (a<b)=d):mj Z .Lt (.int a) (.int b)=some d:=congrArg some h
theorem zR {Z:ag}{a b:Int}{d:Bool}(h:decide (b<a)=d):mj Z .Gt (.int a) (.int b)=some d:=congrArg some h
theorem cH {α:Type}{f:α->V}{n:Nat}(h:∀ x,c6 n (f x)=true):∀ l:List α,cw n (l.map f)=true
 | []=>by induction n using OB<;>rfl
 | x::r=>ay.mpr ⟨h x,cH h r⟩
theorem eR {α:Type}{f:α->V}(h:∀ x,nb (f x)=true):∀ l:List α,vb (l.map f)=true
 | []=>rfl
 | x::r=>ay.mpr ⟨h x,eR h r⟩
theorem jQ {α:Type}{f:α->V}{n:Nat}(h:∀ x,ok n (f x)) (l:List α):ok (n+1) (.tup (l.map f)):=⟨cH (fun x=>(h x).1) l,eR (fun x=>(h x).2) l⟩
theorem eJ {α:Type}{f:α->V}{n:Nat}(h:∀ x,ok n (f x)) (l:List α):ok (n+1) (.lst (l.map f)):=⟨cH (fun x=>(h x).1) l,eR (fun x=>(h x).2) l⟩
theorem jr {α β:Type}{f:α->β}(h:∀ x y,f x=f y->x=y):∀ {a b:List α},a.map f=b.map f->a=b
 | [],[],_=>rfl
 | _::_,[],h' | [],_::_,h'=>nomatch h'
 | x::a,y::b,h'=>by
  have h':=List.cons.inj h';exact aa (h x y h'.1 ..) (aa (jr h h'.2 ..) rfl)
inductive Sg | le | ge | eq | ne
 deriving DecidableEq
noncomputable def qT:Sg->Str
 | .le=>T "<="
 | .ge=>T ">="
 | .eq=>T "="
 | .ne=>T "!="
structure cR where
 x:Int
 s:Sg
 k:Int
noncomputable def bn (l:cR):V:=.tup [.int l.x,.str (qT l.s),.int l.k]
noncomputable def ye:cR->cR
 | ⟨x,.le,k⟩=>⟨x,.ge,k+1⟩
 | ⟨x,.ge,k⟩=>⟨x,.le,k - 1⟩
 | ⟨x,.eq,k⟩=>⟨x,.ne,k⟩
 | ⟨x,.ne,k⟩=>⟨x,.eq,k⟩
noncomputable def d3:cR->Dm->Dm
 | ⟨_,.le,k⟩,d=>ym d k
 | ⟨_,.ge,k⟩,d=>oK d k
 | ⟨_,.eq,k⟩,d=>fm k d
 | ⟨_,.ne,k⟩,d=>sI d k
theorem vQ (s:Sg):ok 16 (.str (qT s)):=⟨by induction s using Sg.casesOn<;>decide +kernel,rfl⟩
theorem vR {a b:Sg}:qT a=qT b↔a=b:=by induction a using Sg.casesOn<;>induction b using Sg.casesOn<;>decide +kernel
theorem o3 {Z:ag}{a b:Sg}:mj Z .Eq (.str (qT a)) (.str (qT b))=some (decide (a=b)):=mr (a':=.str (qT a)) (b':=.str (qT b)) rfl rfl (vQ a) (vQ b) (by rw [V.str.injEq,vR,decide_eq_true_iff])
section
variable {n:Nat}{Z:ag}
theorem pG {l:cR}(ho:dI Z):cV (n+1) 113 [bn l] Z=some (bn (ye l),Z):=by
 obtain ⟨x,s,k⟩:=l;show cL false Z (cB (bD n) 200 [(T "literal",bn ⟨x,s,k⟩)] Z (bd 16))=_;refine bS ho rfl (bu rfl (v:=bn ⟨x,s,k⟩) rfl (fR rfl) (bW rfl (bq rfl rfl (o3 (b:=.le))) (fun h=>?_) fun h1=>aY (bW rfl (bq rfl rfl (o3 (b:=.ge))) (fun h=>?_) fun h2=>aY (bo rfl (oR (bq rfl rfl (o3 (b:=.eq))) ?_ ?_) ⟨rfl,rfl⟩))))
 ·cases ao h;exact bo rfl rfl ⟨rfl,rfl⟩
 ·cases ao h;exact bo rfl rfl ⟨rfl,rfl⟩
 ·intro h;cases ao h;rfl
 ·intro h;induction s using Sg.casesOn<;>first | rfl | (simp at h1;done) | (simp at h2;done) | (simp at h;done)
theorem cf {c:d8}{n:Nat}{ρ:aL}{Z Z1:ag}{es:List Expr}{u:Nat}{p:Pos}{vs:List V}(h:evs c n ρ Z es=some (vs,Z1)):ev c (n+1) ρ Z (.Tuple es u p)=some (.tup vs,Z1):=by
 show (evs c n ρ Z es).map _=_;refine aa (h ..) ?_;rfl
noncomputable def pg (d:Dm) (k:Int) (z:Nat) (i j:Int):Option (Int×Int)->aL
 | none=>[(T "d",bN d),(T "e",.tup [.tup [.int k,.int k]]),(T "found",.own z),(T "i",.int i),(T "j",.int j)]
 | some (a,b)=>[(T "d",bN d),(T "e",.tup [.tup [.int k,.int k]]),(T "found",.own z),(T "i",.int i),(T "j",.int j),(T "low",.int a),(T "high",.int b)]
noncomputable def vc:Expr×List Stmt×Pos:=match (bd 14)[1]? with | some (Stmt.While t b _ p)=>(t,b,p) | _=>(default,[],default)
noncomputable def Op:Expr:=match vc.2.1[0]? with | some (Stmt.Assign [t] _ _)=>t | _=>default
section
variable {d:Dm}{k:Int}{z:Nat}{i j:Int}{o:Option (Int×Int)}{N:Nat}{Z':ag}{p:Pos}
theorem D6:ev (bD n) (N+1) (pg d k z i j o) Z' (.Name (T "d") p)=some (bN d,Z'):=by induction o using Oy<;>rfl
theorem D5:ev (bD n) (N+1) (pg d k z i j o) Z' (.Name (T "e") p)=some (.tup [.tup [.int k,.int k]],Z'):=by induction o using Oy<;>rfl
theorem D4:ev (bD n) (N+1) (pg d k z i j o) Z' (.Name (T "i") p)=some (.int i,Z'):=by induction o using Oy<;>rfl
theorem DY:ev (bD n) (N+1) (pg d k z i j o) Z' (.Name (T "j") p)=some (.int j,Z'):=by induction o using Oy<;>rfl
theorem wA:ev (bD n) (N+1) (pg d k z i j o) Z' (.Name (T "len") p)=some (.raw (.builtin "len"),Z'):=by induction o using Oy<;>rfl
theorem Bm:ev (bD n) (N+1) (pg d k z i j o) Z' (.Name (T "max") p)=some (.raw (.builtin "max"),Z'):=by induction o using Oy<;>rfl
theorem Bl:ev (bD n) (N+1) (pg d k z i j o) Z' (.Name (T "min") p)=some (.raw (.builtin "min"),Z'):=by induction o using Oy<;>rfl
theorem y0 {a b:Int}:b6 Op (.tup [.int a,.int b]) (pg d k z i j o)=some (pg d k z i j (some (a,b))):=by induction o using Oy<;>rfl
noncomputable def M4 (Z:ag) (d:Dm) (k:Int) (F:Dm) (fl:Fl) (ρ:aL) (Z':ag):Prop:=fl=.next/\(∃ i j o,ρ=pg d k Z.length i j o)/\Z'=Z++[.lst (F.map b9)]
theorem tm {F:List V}{b1 b2:Bool}{N:Nat}(hd:d.length<=100) (h1:decide (i<d.length)=b1) (h2:decide (j<1)=b2) :
  ev (bD n) (N+9) (pg d k Z.length i j o) (Z++[.lst F]) vc.1=some (.bool (b1&&b2),Z++[.lst F]):=by
 refine fP (d:=b1) (d':=b1&&b2) (bq D4 (cW wA (am D6) (cG rfl (by simpa using dM hd))) (zQ (by simpa using h1))) (fun h=>?_) (fun h=>⟨rfl,by refine aa (h ..) ?_;rfl⟩) |>.trans (by induction b1 using Oz<;>rfl);refine aa (h ..) (aa (Bool.true_and ..) ?_);exact bq DY (cW wA (am D5) (cG rfl (by simp [lim]))) (zQ h2)
theorem wB {F:Dm}{b1 b2:Bool}{N:Nat}(hd:d.length<=100) (h1:decide (i<d.length)=b1) (h2:decide (j<1)=b2) (h:(b1&&b2)=false) :
  Wh (bD n) (N+10) (pg d k Z.length i j o) (Z++[.lst (F.map b9)]) vc.1 vc.2.1 vc.2.2 (M4 Z d k F) :=
 wh (d:=false) (aa (tm hd h1 h2 ..) (aa (h ..) (by rfl))) nofun fun ζ=>⟨rfl,⟨_,_,_,rfl⟩,rfl⟩
theorem uv {d : Dm} {k : Int} (hd : d.length <= 100) : ∀ (r done F : Dm) (o : Option (Int × Int)) (m : Nat), done ++ r = d -> F.length <= done.length ->
    Wh (bD n) (m + r.length + 40) (pg d k Z.length done.length 0 o) (Z ++ [.lst (F.map b9)]) vc.1 vc.2.1 vc.2.2 (M4 Z d k (F ++ fm k r)) := by
  intro r
  induction r with
  | nil =>
    intro done F o m h hF;rw [List.append_nil] at h; subst h;refine aa (List.append_nil ..) ?_;exact wB hd (b1 := false) (by simp) rfl rfl
  | cons p r ih =>
    obtain ⟨a, b⟩ := p;intro done F o m h hF;have hl : (d.map b9).length <= lim := by simpa using dM hd
    have hi : (d.map b9)[done.length]? = some (b9 (a, b)) := by refine aa (aH (h ..)) ?_; simp
    have hx : cy (done.length : Int) (d.map b9).length = some done.length := pi (by refine aa (aH (h ..)) ?_; simp);have hlt : decide ((done.length : Int) < d.length) = true := by refine aa (aH (h ..)) ?_; simp; exact KN
    have hF' : F.length <= 99 := by
     have : d.length = done.length + (r.length + 1) := by refine aa (aH (h ..)) ?_; simp
     exact KM hd hF this
    have gi : ∀ {o : Option (Int × Int)} {N : Nat} {Z' : ag} {p1 p2 p3 : Pos}, ev (bD n) (N + 2) (pg d k Z.length done.length 0 o) Z' (.Subscript (.Name (T "d") p1) (.Name (T "i") p2) p3) = some (b9 (a, b), Z') := bI rfl D6 D4 rfl hl hx hi;have gj : ∀ {o : Option (Int × Int)} {N : Nat} {Z' : ag} {p1 p2 p3 : Pos}, ev (bD n) (N + 2) (pg d k Z.length done.length 0 o) Z' (.Subscript (.Name (T "e") p1) (.Name (T "j") p2) p3) = some (b9 (k, k), Z') := bI rfl D5 DY rfl (by simp [lim]) pj rfl;refine wh (d := true) (tm hd hlt rfl) (fun ζ => ?_) fun h => nomatch h;refine bu rfl (v := .tup [.int (max a k), .int (min b k)]) (Z1 := Z ++ [.lst (F.map b9)]) ?_ (fR y0) ?_
    · exact cf (ap (cW Bm (ap (bI rfl gi rfl rfl dC pj rfl) (am (bI rfl gj rfl rfl dC pj rfl))) rfl) (am (cW Bl (ap (bI rfl gi rfl rfl dC (k := 1) rfl rfl) (am (bI rfl gj rfl rfl dC (k := 1) rfl rfl))) rfl)))
    have tail : ∀ F' : Dm, F'.length <= done.length + 1 -> F' ++ (if b < k then fm k r else []) = F ++ fm k ((a, b) :: r) ->
        Xs (bD n) (m + ((a, b) :: r).length + 37) (pg d k Z.length done.length 0 (some (max a k, min b k))) (Z ++ [.lst (F'.map b9)]) (vc.2.1.drop 2) (Nx (fun ρ Z' => Wh (bD n) (m + ((a, b) :: r).length + 39) ρ Z' vc.1 vc.2.1 vc.2.2 (M4 Z d k (F ++ fm k ((a, b) :: r)))) (M4 Z d k (F ++ fm k ((a, b) :: r)))) := by
      intro F' h1 h2;refine bW rfl (bq (bI rfl gi rfl rfl dC (k := 1) rfl rfl) (bI rfl gj rfl rfl dC (k := 1) rfl rfl) rfl) (fun hb => ?_) fun hb => ?_
      · rw [if_pos (ao hb)] at h2
        refine aa (aH (h2 ..)) ?_;have := ih (done ++ [(a, b)]) F' (some (max a k, min b k)) m (by simpa using h) (by simpa using h1);rw [show (((done ++ [(a, b)]).length : Nat) : Int) = (done.length : Int) + 1 by simp] at this;exact bu rfl rfl rfl (aY (aY this))
      · rw [if_neg (of_decide_eq_false hb), List.append_nil] at h2
        refine aa (aH (h2 ..)) ?_;exact bu rfl rfl (ρ' := pg d k Z.length done.length (0 + 1) (some (max a k, min b k))) rfl (aY (aY (wB (Z := Z) (N := m + ((a, b) :: r).length + 29) (j := 0 + 1) hd hlt rfl rfl)))
    refine bW rfl (d := decide (max a k <= min b k)) rfl (fun hb => ?_) fun hb => aY (tail F (NI hF) (by (rw [fm]; refine aa (if_neg (of_decide_eq_false hb) ..) ?_); rfl));refine cJ rfl (c9 rfl bJ (am rfl) bJ (by simpa using dM (KL hF')) cK) (aY ?_);refine aa (eP ..) ?_;have := tail (F ++ [(max a k, min b k)]) (by simpa using hF) (by (rw [fm]; exact aa (if_pos (ao hb) ..) (aa (List.append_assoc ..) rfl)));rw [aK] at this;exact this
end
theorem pW {k:Int}:∀ d:Dm,(fm k d).length<=d.length
 | []=>aU _
 | (a,b)::r=>by
  have:=pW (k:=k) r;(rw [fm];refine aa (ai ..) (aa (aR ..) ?_))
  split<;>split<;>simp<;>lia
theorem yz {d:Dm}{k:Int}(ho:dI Z) (hd:d.length<=100):cV (n+1) 99 [bN d,.tup [.tup [.int k,.int k]]] Z=some (bN (fm k d),Z):=by
 show cL false Z (cB (bD n) 200 [(T "d",bN d),(T "e",.tup [.tup [.int k,.int k]])] Z (bd 14))=_;obtain ⟨m,hm⟩:∃ m,158=m+d.length:=⟨158 - d.length,by exact KJ hd⟩;refine lO ho (eT _ _) (bu rfl (v:=.tup [.own Z.length,.int 0,.int 0]) (Z1:=Z++[.lst []]) rfl (ρ':=pg d k Z.length 0 0 none) rfl (i8 rfl ?_));have:=uv (n:=n) (Z:=Z) (k:=k) hd d [] [] none m rfl (aU _);rw [← hm] at this;refine cM this fun fl ρ' Z' h1 Q0 Q1 Q2=>?_;clear this;subst Q0;refine xy (Q1) fun i j o Q3=>?_;clear Q1;subst Q3;subst Q2;refine ⟨.next,_,_,h1,bo (v:=.tup ((fm k d).map b9)) rfl (fj (i:= "tuple") (bz o rfl fun ζ=>rfl) (am (v:=.own Z.length) (bz o rfl fun ζ=>rfl)) ?_) ⟨_,rfl,?_⟩⟩
 ·show (bO (Z++[.lst ((fm k d).map b9)]) (.own Z.length)).bind _=_;rw [show bO (Z++[.lst ((fm k d).map b9)]) (.own Z.length)=some ((fm k d).map b9) by show (match (Z++[_])[Z.length]? with | some (.lst l)=>some l | _=>none)=_;rw [bJ]];exact if_pos (by simpa using dM (af (pW d) hd))
 ·exact l7 (fun ζ=>rfl) _
end
theorem xv (x y:Int×Int) (h:b9 x=b9 y):x=y:=by
 injection h with h;injection h with h1 h;injection h with h2;injection h1 with h1;injection h2 with h2
 exact Prod.ext h1 h2
theorem gc {a b:Dm}(h:bN a=bN b):a=b:=by injection h with h;exact jr xv h
theorem On (p:Int×Int):ok 15 (b9 p):=⟨rfl,rfl⟩
theorem wo (d:Dm):ok 16 (bN d):=jQ On d
section
variable {n:Nat}{Z:ag}
theorem nr {l:cR}{d:Dm}(ho:dI Z) (hd:d.length<=100):cV (n+3) 120 [bn l,bN d] Z=some (bN (d3 l d),Z):=by
 obtain ⟨x,s,k⟩:=l;show cL false Z (cB (bD (n+2)) 200 [(T "literal",bn ⟨x,s,k⟩),(T "d",bN d)] Z (bd 17))=_;refine bS ho (eT _ _) (bu rfl (v:=.tup [.str (qT s),.int k]) rfl (fR rfl) (bW rfl (bq rfl rfl (o3 (b:=.le))) (fun h=>?_) fun h1=>aY (bW rfl (bq rfl rfl (o3 (b:=.ge))) (fun h=>?_) fun h2=>aY (bo rfl (oR (bq rfl rfl (o3 (b:=.eq))) ?_ ?_) ⟨rfl,rfl⟩))))
 ·cases ao h;exact bo rfl (bx rfl (ap rfl (am rfl)) (pE ho hd)) ⟨rfl,rfl⟩
 ·cases ao h;exact bo rfl (bx rfl (ap rfl (am rfl)) (lj ho hd)) ⟨rfl,rfl⟩
 ·intro h;cases ao h;exact bx rfl (ap rfl (am rfl)) (yz ho hd)
 ·intro h;induction s using Sg.casesOn<;>first | exact bx rfl (ap rfl (am rfl)) (rh ho hd) | (simp at h1;done) | (simp at h2;done) | (simp at h;done)
noncomputable def jk (l:cR) (d:Dm):Int:=if d3 l d=d then 1 else if d3 l d=[] then -1 else 0
theorem yx {l:cR}{d:Dm}(ho:dI Z) (hd:d.length<=100):cV (n+4) 127 [bn l,bN d] Z=some (.int (jk l d),Z):=by
 show cL false Z (cB (bD (n+3)) 200 [(T "literal",bn l),(T "d",bN d)] Z (bd 18))=_;refine bS ho rfl (bu rfl (bx rfl (ap rfl (am rfl)) (nr ho hd)) rfl (bW rfl (bq rfl rfl (mr (d:=decide (d3 l d=d)) rfl rfl (wo _) (wo _) ?_)) (fun h=>bo rfl rfl ⟨?_,rfl⟩) fun h=>aY (bo rfl (v:=.int (jk l d)) (oR (bq rfl rfl (mr (d:=decide (d3 l d=[])) (a':=bN (d3 l d)) (b':=bN []) rfl rfl (wo _) (wo []) ?_)) ?_ ?_) ⟨rfl,rfl⟩)))
 ·rw [decide_eq_true_iff];exact ⟨congrArg bN,gc⟩
 ·unfold jk;refine aa (if_pos (ao h) ..) ?_;rfl
 ·rw [decide_eq_true_iff];exact ⟨congrArg bN,gc⟩
 ·intro h2;unfold jk;refine aa (if_neg (of_decide_eq_false h) ..) (aa (if_pos (ao h2) ..) ?_);rfl
 ·intro h2;unfold jk;refine aa (if_neg (of_decide_eq_false h) ..) (aa (if_neg (of_decide_eq_false h2) ..) ?_);rfl
theorem sB {c:d8}{n:Nat}{ρ:aL}{Z Z1 Z2:ag}{o i:Expr}{p:Pos}{k q:Nat}{j:Int}{l:List V}{v:V}(h1:ev c n ρ Z o=some (.own k,Z1)) (h2:ev c n ρ Z1 i=some (.int j,Z2)) (h3:Z2[k]?=some (.lst l)) (h4:l.length<=lim) (h5:cy j l.length=some q) :
  pn c n ρ Z v (.Subscript o i p)=some (ρ,Z2.set k (.lst (l.set q v))):=by
 show (ev c n ρ Z o).bind _=_;refine aa (h1 ..) ?_;show (ev c n ρ Z1 i).bind _=_;refine aa (h2 ..) ?_;show (match Z2[k]?,V.int j with
   | some (.lst l),.int j=>if l.length<=lim then (cy j l.length).map fun q=>(ρ,Z2.set k (.lst (l.set q v))) else none
   | some (.sdct fs),.str x=>if fs.length<=400 then some (ρ,Z2.set k (.sdct (st x v fs))) else none
   | some (.idct q),.int _=>if q<=lim then some (ρ,Z2.set k (.idct (q+1))) else none
   | _,_=>none)=_
 refine aa (h3 ..) ?_;show (if l.length<=lim then (cy j l.length).map fun q=>(ρ,Z2.set k (.lst (l.set q v))) else none)=_;refine aa (if_pos h4 ..) (aa (h5 ..) ?_);rfl
theorem vS {Z:ag}{k:Nat}{c:Cell}(h:Z[k]?=some c):Z.set k c=Z:=by
 refine be (List.getElem?_eq_some_iff.mp h) fun hlt heq=>?_;refine aa (aH (heq ..)) ?_;exact List.set_getElem_self hlt
noncomputable def ly (F:Dm) (p:Int×Int):Dm:=match F.getLast? with
 | none=>F++[p]
 | some q=>if p.1<=q.2+1 then (if q.2<p.2 then F.dropLast++[(q.1,p.2)] else F) else F++[p]
theorem yV {k:Nat}{l:List V}(ho:dI Z) (h:dA Z.length l=true):dI (Z.set k (.lst l)):=by
 unfold dI at ho ⊢;rw [aF,List.all_eq_true] at *;intro c hc;rcases List.mem_or_eq_of_mem_set hc with hc | rfl
 ·exact ho c hc
 ·exact h
theorem gf {c:d8}{n:Nat}{ρ:aL}{Z:ag}{b:List Stmt}{P:V->ag->Prop}(h:Xs c n ρ Z b fun fl ζ Z'=>dI Z'/\Z'.length=Z.length/\cO Z.length (jK fl)=true/\P (jK fl) Z'):∃ v Z',cL false Z (cB c n ρ Z b)=some (v,Z')/\P v Z':=by
 refine fX h fun fl ρ' Z' h1 h2 h3 h4 h5=>?_;clear h;refine ⟨_,_,?_,h5⟩;refine aa (h1 ..) ?_;show (if false=true then some (jK fl,Z') else if (Z'.take Z.length).all (mN Z.length)&&cO Z.length (gI Z' Z.length (jK fl)) then some (gI Z' Z.length (jK fl),Z'.take Z.length) else none)=_;unfold dI at h2;rw [h3] at h2;rw [← h3] at h4 ⊢;exact aa (if_neg (by simp) ..) (aa (px h4 ..) (aa (List.take_length ..) (aa (h4 ..) (aa (Bool.and_true ..) (aa (if_pos (h3▸h2) ..) rfl)))))
theorem vD {k:Nat}{F:Dm}{a b:Int}(ho:dI Z) (h:Z[k]?=some (.lst (F.map b9))) (hd:F.length<=100):cV (n+1) 28 [.own k,.int a,.int b] Z=some (.none,Z.set k (.lst ((ly F (a,b)).map b9))):=by
 show cL false Z (cB (bD n) 200 [(T "found",.own k),(T "low",.int a),(T "high",.int b)] Z (bd 2))=_;have hl:(F.map b9).length<=lim:=by simpa using dM hd
 have hs:bO Z (.own k)=some (F.map b9):=by show (match Z[k]? with | some (.lst l)=>some l | _=>none)=_;exact aa (h ..) rfl
 have key:∀ G:Dm,Xs (bD n) 200 [(T "found",.own k),(T "low",.int a),(T "high",.int b)] Z (bd 2) (fun fl ζ Z'=>jK fl=.none/\Z'=Z.set k (.lst (G.map b9)))->cL false Z (cB (bD n) 200 [(T "found",.own k),(T "low",.int a),(T "high",.int b)] Z (bd 2))=some (.none,Z.set k (.lst (G.map b9))):=by
  intro G hX;refine bG (gf (P:=fun v Z'=>v=.none/\Z'=Z.set k (.lst (G.map b9))) (hX.mono (fun fl ζ Z' q=>⟨q.2▸yV ho (bw (fun ζ=>rfl) _),q.2▸aF,by refine aa (q.1 ..) ?_;rfl,q⟩))) fun v Z' h1 Q0 Q1=>?_;subst Q0;subst Q1;exact h1
 refine key _ ?_;rcases List.eq_nil_or_concat F with rfl | ⟨F',q,rfl⟩
 ·exact bW rfl (fP (d:=false) (d':=false) (bq (cW rfl (am rfl) (cG hs hl)) rfl rfl) nofun fun ζ=>⟨rfl,rfl⟩) nofun fun ζ=>cJ rfl (c9 rfl h (am rfl) h hl cK) (aY (aY ⟨rfl,rfl⟩))
 ·rw [List.concat_eq_append] at *;obtain ⟨qa,qb⟩:=q;have hx:cy (-1) ((F'++[(qa,qb)]).map b9).length=some F'.length:=by refine aa (ah ..) (aa (ai ..) ?_);exact M7
  have hq:((F'++[(qa,qb)]).map b9)[F'.length]?=some (b9 (qa,qb)):=by simp
  have gq:∀ {N:Nat}{p1 p2 p3 p4:Pos}{u:Nat},ev (bD n) (N+3) [(T "found",.own k),(T "low",.int a),(T "high",.int b)] Z (.Subscript (.Name (T "found") p1) (.UnaryOp .USub (.Constant (.int 1) u p2) p3) p4)=some (b9 (qa,qb),Z):=bI rfl rfl rfl hs hl hx hq;have hP:ly (F'++[(qa,qb)]) (a,b)=if a<=qb+1 then (if qb<b then F'++[(qa,b)] else F'++[(qa,qb)]) else F'++[(qa,qb)]++[(a,b)]:=by
   unfold ly;exact aa (List.getLast?_concat ..) (aa (List.dropLast_concat ..) rfl)
  have hgt:decide ((0:Int)<(((F'++[(qa,qb)]).map b9).length:Nat))=true:=by simp
  refine bW rfl (fP (d:=true) (d':=decide (a<=qb+1)) (bq (cW rfl (am rfl) (cG hs hl)) rfl (zR hgt)) (fun ζ=>bq rfl (cF (bI rfl gq rfl rfl dC (k:=1) rfl rfl) rfl rfl) rfl) nofun) (fun hb=>?_) fun hb=>?_
  ·refine aa (hP ..) (aa (if_pos (ao hb) ..) ?_);refine bW rfl (bq rfl (bI rfl gq rfl rfl dC (k:=1) rfl rfl) rfl) (fun hc=>?_) fun hc=>?_
   ·refine aa (if_pos (ao hc) ..) ?_;refine bu rfl (cf (ap (bI rfl gq rfl rfl dC (k:=0) rfl rfl) (am rfl))) (sB rfl rfl h hl hx) (aY (aY (aY ⟨rfl,?_⟩)));simp [b9]
   ·refine aa (if_neg (of_decide_eq_false hc) ..) ?_;refine aY (aY (aY ⟨rfl,?_⟩));exact (vS h).symm
  ·refine aa (hP ..) (aa (if_neg (of_decide_eq_false hb) ..) (aa (aK ..) ?_));exact cJ rfl (c9 rfl h (am rfl) h hl cK) (aY (aY ⟨rfl,rfl⟩))
end
mutual
theorem kW {n m:Nat}(h:n<=m):∀ v,cO n v=true->cO m v=true
 | .own _,hv=>aA (bc (ao hv) h)
 | .tup l,hv=>f4 h l hv
 | .lst l,hv=>f4 h l hv
 | .none,_ | .bool _,_ | .int _,_ | .str _,_ | .rng _ _,_ | .raw _,_=>rfl
theorem f4 {n m:Nat}(h:n<=m):∀ l,dA n l=true->dA m l=true
 | [],_=>rfl
 | v::r,hl=>by
  have hl:=ay.mp hl;show (cO m v&&dA m r)=true;refine aa (kW h v hl.1 ..) (aa (f4 h r hl.2 ..) ?_);rfl
end
theorem qt {n m:Nat}(h:n<=m) {fs:List (Str×V)}(hf:(fs.all fun p=>cO n p.2)=true):(fs.all fun p=>cO m p.2)=true:=by
 rw [List.all_eq_true] at *;exact fun p hp=>kW h _ (hf p hp)
theorem xO {n m:Nat}(h:n<=m) {c:Cell}(hc:mN n c=true):mN m c=true:=by
 induction c using Cell.casesOn with
 | lst l=>exact f4 h l hc
 | inst C d=>exact aA (bc (ao hc) h)
 | attrs fs=>exact qt h hc
 | sdct fs=>exact qt h hc
 | idct _=>rfl
 | dead=>rfl
theorem jo {Z:ag}{c:Cell}(ho:dI Z) (h:mN (Z.length+1) c=true):dI (Z++[c]):=by
 unfold dI at *;refine aa (List.all_append ..) (aa (Bool.and_eq_true ..) (aa (ai ..) ?_));rw [List.all_eq_true] at *;exact ⟨fun c hc=>xO (aP _ _) (ho c hc),by rw [List.all_eq_true];intro x hx;refine aa (an.mp hx ..) ?_;exact h⟩
theorem ou {Z:ag}{α:Type}{f:α->V}(ho:dI Z) (h:∀ x,cO 0 (f x)=true) (l:List α):dI (Z++[.lst (l.map f)]) :=
 jo ho (bw (fun x=>kW (Nat.zero_le _) _ (h x)) l)
theorem fM {Z:ag}{l:List V}:bO (Z++[.lst l]) (.own Z.length)=some l:=by
 show (match (Z++[Cell.lst l])[Z.length]? with | some (.lst l)=>some l | _=>none)=_;exact aa (bJ ..) rfl
theorem pN (F:Dm) (p:Int×Int):(ly F p).length<=F.length+1:=by
 rcases List.eq_nil_or_concat F with rfl | ⟨F',q,rfl⟩
 ·exact aU _
 ·unfold ly;refine aa (List.concat_eq_append ..) (aa (List.getLast?_concat ..) (aa (List.dropLast_concat ..) ?_));dsimp only
  split
  ·split<;>simp
  ·simp
theorem nG {α β:Type}{le:β->β->Bool}{f:α->β}(x:α):∀ l:List α,eY le (f x) (l.map f)=(eY (fun a b=>le (f a) (f b)) x l).map f
 | []=>rfl
 | y::r=>by
  show (if le (f x) (f y) then _ else _)=List.map f (if le (f x) (f y) then _ else _);refine aa (nG x r ..) ?_
  cases le (f x) (f y)<;>rfl
theorem jW {α β:Type}{le:β->β->Bool}{f:α->β}:∀ l:List α,cP le (l.map f)=(cP (fun a b=>le (f a) (f b)) l).map f
 | []=>rfl
 | x::r=>by
  show eY le (f x) (cP le (r.map f))=_;refine aa (jW r ..) (aa (nG ..) ?_);rfl
theorem nH {α:Type}{le:α->α->Bool}{x:α}:∀ l:List α,(eY le x l).length=l.length+1
 | []=>rfl
 | y::r=>by
  show (if le x y then x::y::r else y::eY le x r).length=_
  cases le x y
  ·exact congrArg (·+1) (nH r)
  ·rfl
theorem fv {α:Type}{le:α->α->Bool}:∀ l:List α,(cP le l).length=l.length
 | []=>rfl
 | x::r=>by show (eY le x (cP le r)).length=_;refine aa (nH ..) (aa (fv r ..) ?_);rfl
noncomputable def jA (l:List Int):Dm:=(cP (fun a b=>decide (a<=b)) l).foldl (fun F v=>ly F (v,v)) []
noncomputable def Of (p q:Int×Int):Bool:=cu [p.1,p.2] [q.1,q.2]
noncomputable def tA (d e:Dm):Dm:=(cP Of (d++e)).foldl ly []
theorem uX {Z:ag}{l:List Int}(h:l.length<64):eG Z (.builtin "sorted") [.lst (l.map .int)]=some (.lst ((cP (fun a b=>decide (a<=b)) l).map .int)):=by
 show (if (l.map V.int).length<64 then _ else _)=_;refine aa (if_pos (by simpa using h) ..) ?_;show (match c7 (l.map fun x=>V.int (id x)) with | some a=>_ | none=>_)=_;refine aa (fF ..) ?_;show some (V.lst ((cP _ (l.map id)).map .int))=_;exact aa (List.map_id ..) rfl
theorem k6 {α:Type}(f:α->List Int):∀ l:List α,cS (l.map fun x=>V.tup ((f x).map .int))=some (l.map f)
 | []=>rfl
 | x::r=>by
  show (c7 ((f x).map V.int)).bind _=_;refine aa (show c7 ((f x).map V.int)=some (f x) by simpa using fF id (f x) ..) ?_;show (cS (r.map fun x=>V.tup ((f x).map .int))).map _=_;refine aa (k6 f r ..) ?_;rfl
theorem uW {Z:ag}{d:Dm}(h:d.length<64):eG Z (.builtin "sorted") [bN d]=some (.lst ((cP Of d).map b9)):=by
 show (if (d.map b9).length<64 then (cS (d.map fun p=>V.tup ([p.1,p.2].map .int))).bind _ else none)=_;refine aa (if_pos (by simpa using h) ..) (aa (k6 ..) ?_);show (if (d.map fun p=>[p.1,p.2]).all (fun t=>!t.isEmpty) then some (V.lst ((cP cu (d.map fun p=>[p.1,p.2])).map fun t=>.tup (t.map .int))) else none)=_;refine aa (if_pos (by simp) ..) (aa (jW ..) (aa (List.map_map ..) ?_));rfl
section
variable {n:Nat}{Z:ag}
theorem li {l:List Int}(ho:dI Z) (hl:l.length<64):cV (n+2) 35 [.lst (l.map .int)] Z=some (bN (jA l),Z):=by
 show cL false Z (cB (bD (n+1)) 200 [(T "numbers",.lst (l.map .int))] Z (bd 3))=_;have hle:l.length<=lim:=dM (KI hl)
 let E:Option Int->aL:=fun o=>match o with | none=>[(T "numbers",.lst (l.map .int)),(T "found",.own Z.length)] | some v=>[(T "numbers",.lst (l.map .int)),(T "found",.own Z.length),(T "v",.int v)]
 refine lO ho (eT _ _) (bu rfl (dz b0 rfl) (ρ':=E none) rfl (dg rfl rfl (cW (i:= "sorted") rfl (am rfl) (uX hl)) (bB (by refine aa (ah ..) (aa (fv ..) ?_);exact hle)) ?_));refine cm (enc:=V.int) (fun r ρ Z'=>(∃ o,ρ=E o)/\∃ F:Dm,Z'=Z++[.lst (F.map b9)]/\r.foldl (fun F v=>ly F (v,v)) F=jA l/\F.length+r.length<=63) ⟨⟨none,rfl⟩,[],rfl,rfl,by refine aa (fv ..) ?_;simp;exact KH hl⟩ ?_ ?_
 ·rintro ρ _ ⟨⟨o,rfl⟩,F,rfl,h,h2⟩
  have h:F=jA l:=h;subst h;exact bo rfl (fj (i:= "tuple") (bz o rfl fun ζ=>rfl) (am (v:=.own Z.length) (bz o rfl fun ζ=>rfl)) (by show (bO _ _).bind _=_;rw [fM];exact if_pos (by simp at h2 ⊢;exact dM (Gu h2)))) ⟨_,rfl,l7 (fun ζ=>rfl) _⟩
 ·rintro v r ρ _ ⟨⟨o,rfl⟩,F,rfl,h,h2⟩
  rw [aR] at h2;refine ⟨E (some v),by induction o using Oy<;>rfl,cJ rfl (bx rfl (ap (v:=.own Z.length) rfl (ap rfl (am rfl))) (vD (ou ho (fun ζ=>rfl) F) bJ (Gj h2))) (aY ⟨⟨some v,rfl⟩,ly F (v,v),eP,h,?_⟩)⟩;have:=pN F (v,v);exact FY h2 this
theorem yA {d e:Dm}(ho:dI Z) (hl:d.length+e.length<64):cV (n+2) 106 [bN d,bN e] Z=some (bN (tA d e),Z):=by
 show cL false Z (cB (bD (n+1)) 200 [(T "d",bN d),(T "e",bN e)] Z (bd 15))=_
 let E:Option (Int×Int)->aL:=fun o=>match o with | none=>[(T "d",bN d),(T "e",bN e),(T "found",.own Z.length)] | some (a,b)=>[(T "d",bN d),(T "e",bN e),(T "found",.own Z.length),(T "low",.int a),(T "high",.int b)]
 refine lO ho (eT _ _) (bu rfl (dz b0 rfl) (ρ':=E none) rfl (dg rfl rfl (cW (i:= "sorted") rfl (am (cF rfl rfl (AU (KG hl) (KF hl)))) (uW (by simpa using hl))) (bB (by refine aa (ah ..) (aa (fv ..) (aa (ai ..) ?_));exact dM (KE hl))) ?_));refine cm (enc:=b9) (fun r ρ Z'=>(∃ o,ρ=E o)/\∃ F:Dm,Z'=Z++[.lst (F.map b9)]/\r.foldl ly F=tA d e/\F.length+r.length<=63) ⟨⟨none,rfl⟩,[],rfl,rfl,by refine aa (fv ..) ?_;simp;exact KD hl⟩ ?_ ?_
 ·rintro ρ _ ⟨⟨o,rfl⟩,F,rfl,h,h2⟩
  have h:F=tA d e:=h;subst h;exact bo rfl (fj (i:= "tuple") (bz o rfl fun ζ=>rfl) (am (v:=.own Z.length) (bz o rfl fun ζ=>rfl)) (by show (bO _ _).bind _=_;rw [fM];exact if_pos (by simp at h2 ⊢;exact dM (Gu h2)))) ⟨_,rfl,l7 (fun ζ=>rfl) _⟩
 ·rintro ⟨a,b⟩ r ρ _ ⟨⟨o,rfl⟩,F,rfl,h,h2⟩
  rw [aR] at h2;refine ⟨E (some (a,b)),by induction o using Oy<;>rfl,cJ rfl (bx rfl (ap (v:=.own Z.length) rfl (ap rfl (am rfl))) (vD (ou ho (fun ζ=>rfl) F) bJ (Gj h2))) (aY ⟨⟨some (a,b),rfl⟩,ly F (a,b),eP,h,?_⟩)⟩;have:=pN F (a,b);exact FY h2 this
noncomputable def mX (x:Int):Int->Dm->List cR
 | _,[]=>[]
 | last,(a,b)::r=>((List.range (a - (last+1)).toNat).map fun i:Nat=>⟨x,.ne,last+1+(i:Int)⟩)++mX x b r
noncomputable def fV (x:Int) (d:Dm) (lo hi:Int):List cR:=⟨x,.ge,lo⟩::⟨x,.le,hi⟩::mX x (lo - 1) d
theorem pF {x lo hi:Int}{d d1 d2:Dm}{a b:Int}(ho:dI Z) (hd:d.length<=5) (h1:d=(lo,a)::d1) (h2:d=d2++[(b,hi)]) (hs:∀ p∈d,p.1.natAbs<=9/\p.2.natAbs<=9) :
  cV (n+2) 330 [.int x,bN d] Z=some (.lst ((fV x d lo hi).map bn),Z):=by
 show cL false Z (cB (bD (n+1)) 200 [(T "x",.int x),(T "domain",bN d)] Z (bd 23))=_;have hl:d.length<=lim:=dM (KC hd);have e1:cV (n+1) 42 [bN d] Z=some (.int lo,Z):=by refine aa (h1 ..) ?_;exact lh ho (by exact aa (aH (h1 ..)) (hl))
 have e1':∀ c:Cell,dI (Z++[c])->cV (n+1) 42 [bN d] (Z++[c])=some (.int lo,Z++[c]):=by intro c hc;refine aa (h1 ..) ?_;exact lh hc (by exact aa (aH (h1 ..)) (hl))
 have e2:cV (n+1) 49 [bN d] Z=some (.int hi,Z):=by refine aa (h2 ..) ?_;exact kn ho (by rw [h2] at hd;simp at hd;unfold lim;exact KB hd)
 let E:Int->Option (Int×Int)->Option Int->aL:=fun last o q=>[(T "x",.int x),(T "domain",bN d),(T "found",.own Z.length),(T "last",.int last)]++(match o with | none=>[] | some (a,b)=>[(T "low",.int a),(T "high",.int b)]++(match q with | none=>[] | some v=>[(T "v",.int v)]))
 have hw:dI (Z++[.lst ([(⟨x,.ge,lo⟩:cR),⟨x,.le,hi⟩].map bn)]):=ou ho (fun ζ=>rfl) _;refine lO ho (bw (fun ζ=>rfl) _) (bu rfl (v:=.tup [.own Z.length,.int (lo - 1)]) (Z1:=Z++[.lst ([(⟨x,.ge,lo⟩:cR),⟨x,.le,hi⟩].map bn)]) (cf (ap (dz (ap (cf (ap rfl (ap rfl (am (bx rfl (am rfl) e1))))) (am (cf (ap rfl (ap rfl (am (bx rfl (am rfl) e2))))))) rfl) (am (cF (bx rfl (am rfl) (e1' _ hw)) rfl rfl)))) (ρ':=E (lo - 1) none none) rfl (dg rfl rfl rfl (cj (by simpa using hl)) ?_));have hL:∀ F:List cR,F.length<=200->(F.map bn).length<=lim:=fun F h=>by refine aa (ah ..) ?_;unfold lim;exact KA h
 refine cm (enc:=b9) (fun r ρ Z'=>∃ last o q F,ρ=E last o q/\Z'=Z++[.lst (List.map bn F)]/\F++mX x last r=fV x d lo hi/\F.length+20*r.length<=102/\last.natAbs<=10/\∀ p∈r,p∈d) ⟨lo - 1,none,none,_,rfl,rfl,rfl,by show 2+_<=_;exact Kz hd,by have:=hs (lo,a) (by exact aa (h1 ..) (.head _));dsimp only at this;exact Ky this,fun ζ h=>h⟩ ?_ ?_
 ·intro ρ;intro _;intro Q0;refine j2 (Q0) fun last o q F Q1 Q2 h ζ ζ ζ=>?_;clear Q0;subst Q1;subst Q2;rw [show mX x last []=[] from rfl,List.append_nil] at h;subst h;exact bo (v:=.own Z.length) rfl (rfl) ⟨_,rfl,tE⟩
 ·rintro ⟨a,b⟩ r ρ _ ⟨last,o,q,F,rfl,rfl,h,h2,h3,h4⟩
  have hab:=hs _ (h4 _ (.head _));dsimp only at hab;rw [aR] at h2;have bnd:∃ q',b6 (.Tuple [.Name (T "low") default,.Name (T "high") default] 0 default) (b9 (a,b)) (E last o q)=some (E last (some (a,b)) q'):=by
   induction o using Oy with
   | none=>exact ⟨none,rfl⟩
   | some o=>induction q using Oy with
    | none=>exact ⟨none,rfl⟩
    | some v=>exact ⟨some v,rfl⟩
  refine be bnd fun q' bnd=>?_;refine ⟨_,bnd,dg (v:=.rng (last+1) a) rfl rfl (fj (i:= "range") (bz q' rfl fun ζ=>rfl) (ap (v:=.int (last+1)) (cF (v:=.int last) (w:=.int 1) (rfl) rfl rfl) (am (v:=.int a) (rfl))) rfl) (dy (by unfold lim;exact Kx h3 hab)) ?_⟩;refine cm (enc:=fun i:Nat=>V.int (last+1+(i:Int))) (fun s ρ Z'=>∃ q F',ρ=E last (some (a,b)) q/\Z'=Z++[.lst (List.map bn F')]/\F'++s.map (fun i:Nat=>(⟨x,.ne,last+1+(i:Int)⟩:cR))++mX x b r=fV x d lo hi/\F'.length+s.length+20*r.length<=102) ⟨q',F,rfl,rfl,?_,?_⟩ ?_ ?_
  ·refine aa (aH (h ..)) (aa (List.append_assoc ..) ?_);rfl
  ·refine aa (List.length_range ..) ?_;exact Kw h2 h3 hab
  ·intro ρ;intro _;intro Q3;refine bK (Q3) fun q F' Q4 Q5 h h2=>?_;clear Q3;subst Q4;subst Q5;rw [List.map_nil,List.append_nil] at h;refine bu (v:=.int b) rfl (rfl) (ρ':=E b (some (a,b)) q) (rfl) (aY ⟨b,some (a,b),q,F',rfl,rfl,h,by simpa using h2,by exact Kv hab,fun p hp=>h4 p (.tail _ hp)⟩)
  ·intro i;intro s;intro ρ;intro _;intro Q6;refine bK (Q6) fun q F' Q7 Q8 h h2=>?_;clear Q6;subst Q7;subst Q8;rw [aR] at h2;refine ⟨E last (some (a,b)) (some (last+1+(i:Int))),by induction q using Oy<;>rfl,cJ rfl (c9 (k:=Z.length) rfl bJ (am (v:=bn ⟨x,.ne,last+1+(i:Int)⟩) rfl) bJ (hL F' (Ku h2)) cK) (aY ⟨some (last+1+(i:Int)),F'++[⟨x,.ne,last+1+(i:Int)⟩],rfl,?_,?_,?_⟩)⟩
   ·refine aa (eP ..) (aa (aK ..) ?_);rfl
   ·exact aa (aH (h ..)) (aa (List.map_cons ..) (aa (List.append_assoc F' ..) (aa (List.singleton_append ..) rfl)))
   ·refine aa (ai ..) (aa (aE ..) ?_);exact Kt h2
end
noncomputable def tQ (m:Nat):List Nat:=(List.range 5).filter fun i=>m.testBit i
noncomputable def bk (m:Nat):List Int:=(tQ m).map Int.ofNat
noncomputable def iv (m:Nat):Dm:=jA (bk m)
noncomputable def mT:Sg->Int->Int->Bool
 | .le,k,v=>decide (v<=k)
 | .ge,k,v=>decide (k<=v)
 | .eq,k,v=>decide (v=k)
 | .ne,k,v=>!decide (v=k)
noncomputable def mk (l:List Nat):Nat:=l.foldl (fun a i=>a+2 ^ i) 0
noncomputable def e9 (s:Sg) (k:Int) (m:Nat):Nat:=mk ((tQ m).filter fun i=>mT s k i)
noncomputable def lo (m:Nat):Int:=((iv m).headD (0,0)).1
noncomputable def hi (m:Nat):Int:=((iv m).getLastD (0,0)).2
noncomputable def Dz:Fin 4->Sg
 | 0=>.le
 | 1=>.ge
 | 2=>.eq
 | 3=>.ne
theorem yK (P:Sg->Prop) (h:∀ i,P (Dz i)):∀ s,P s
 | .le=>h 0
 | .ge=>h 1
 | .eq=>h 2
 | .ne=>h 3
theorem kf {k:Int}(h:0<=k/\k<8):∃ i:Fin 8,k=((i:Nat):Int):=⟨⟨k.toNat,by exact Md h⟩,by simp;exact Mc h⟩
theorem xm:∀ m:Fin 32,(iv m).length<=3/\∀ p∈iv m,p.1.natAbs<=4/\p.2.natAbs<=4:=by decide +kernel
theorem nJ {m:Nat}(h:m<32):(iv m).length<=3:=(xm ⟨m,h⟩).1
theorem tG {m:Nat}(h:m<32):∀ p∈iv m,p.1.natAbs<=4/\p.2.natAbs<=4:=(xm ⟨m,h⟩).2
theorem uJ:∀ (s:Fin 4) (k:Fin 8) (m:Fin 32),d3 ⟨0,Dz s,(k:Nat)⟩ (iv m)=iv (e9 (Dz s) (k:Nat) m)/\e9 (Dz s) (k:Nat) m<32/\bk (e9 (Dz s) (k:Nat) m)=(bk m).filter (mT (Dz s) (k:Nat)):=by decide +kernel
theorem vy (x y:Int) (s:Sg) (k:Int) (d:Dm):d3 ⟨x,s,k⟩ d=d3 ⟨y,s,k⟩ d:=by induction s using Sg.casesOn<;>rfl
theorem fz {x:Int}{s:Sg}{k:Int}{m:Nat}(hk:0<=k/\k<8) (h:m<32):d3 ⟨x,s,k⟩ (iv m)=iv (e9 s k m)/\e9 s k m<32/\bk (e9 s k m)=(bk m).filter (mT s k):=by
 refine be (kf hk) fun k Q0=>?_;subst Q0;refine aa (vy x 0 ..) ?_;exact yK (fun s=>d3 ⟨0,s,(k:Nat)⟩ (iv m)=iv (e9 s (k:Nat) m)/\e9 s (k:Nat) m<32/\bk (e9 s (k:Nat) m)=(bk m).filter (mT s (k:Nat))) (fun s=>uJ s k ⟨m,h⟩) s
theorem CU:∀ m m':Fin 32,iv m=iv m'->m=m':=by decide +kernel
theorem MH {m m':Nat}(h:m<32) (h':m'<32) (e:iv m=iv m'):m=m':=congrArg Fin.val (CU ⟨m,h⟩ ⟨m',h'⟩ e)
theorem fO:∀ m:Fin 32,m.val≠0->iv m=(lo m,((iv m).headD (0,0)).2)::(iv m).tail/\iv m=(iv m).dropLast++[(((iv m).getLastD (0,0)).1,hi m)]/\lo m∈bk m/\hi m∈bk m/\(∀ v∈bk m,lo m<=v/\v<=hi m):=by decide +kernel
theorem gA:∀ m:Fin 32,vals (iv m)=bk m/\Af (iv m)=(bk m).length/\(bk m).length<=5/\(iv m=[]↔m.val=0):=by decide +kernel
theorem CV:∀ (m:Fin 32) (v:Fin 8),Mo (iv m) (v:Nat)=decide (((v:Nat):Int)∈bk m):=by decide +kernel
theorem zC:∀ a b:Fin 32,tA (iv a) (iv b)=iv (a.val ||| b.val):=by decide +kernel
theorem AO:∀ a b:Fin 32,∀ v∈bk a++bk b,v∈bk (a.val ||| b.val):=by decide +kernel
theorem qs:∀ m:Fin 32,m.val≠0->(∀ l∈fV 0 (iv m) (lo m) (hi m),∀ v∈bk m,mT l.s l.k v=true)/\(∀ v:Fin 8,(∀ l∈fV 0 (iv m) (lo m) (hi m),mT l.s l.k (v:Nat)=true)->((v:Nat):Int)∈bk m):=by decide +kernel
noncomputable def fx (m:Nat):Bool:=(bk m).length==1
theorem CW:∀ m:Fin 32,m.val≠0->fx m=(decide ((iv m).length=1)&&decide (((iv m).headD (0,0)).1=((iv m).headD (0,0)).2)):=by decide +kernel
theorem tH:∀ (m:Fin 32),(bk m).Nodup/\(m.val≠0↔bk m≠[])/\(∀ v∈bk m,0<=v/\v<5):=by decide +kernel
noncomputable def cb (m:Nat):V:=bN (iv m)
set_option genInjectivity false in
structure m8 where
 x:Nat
 old:Nat
 lit:cR
 why:Option (List cR)
 sp:Int
noncomputable def vf:Option (List cR)->V
 | none=>.none
 | some l=>.tup (l.map bn)
noncomputable def ig (e:m8):V:=.tup [.int (e.x:Nat),cb e.old,bn e.lit,vf e.why,.int e.sp]
noncomputable def aO (n:Nat):V:=.int (n:Int)
set_option genInjectivity false in
structure b8 where
 doms:List Nat
 firsts:List Nat
 tr:List m8
 marks:List Nat
 kM:Nat
 kN:Nat
 q:Nat
 failed:Bool
 clash:List cR
noncomputable def pk (w:b8):List (Str×V):=[(T "domains",.own 3),(T "firsts",.own 4),(T "trail",.own 5),(T "marks",.own w.kM),(T "news",.own w.kN),(T "speaker",.int (-1)),(T "is_failed",.bool w.failed),(T "clash",.tup (w.clash.map bn))]
noncomputable def wt (l:List Nat):Nat:=(l.map fun m=>(bk m).length).sum
noncomputable def apart (k:Nat):Prop:=k=6\/k=7\/13<=k
structure Wk (w:b8):Prop where
 kM:apart w.kM
 kN:apart w.kN
 ne:w.kM≠w.kN
structure Ws (w:b8):Prop extends Wk w where
 len:w.doms.length<=4
 dom:∀ m∈w.doms,0<m/\m<32
 tr:w.tr.length+wt w.doms<=100
 mks:w.marks.length<=20
 q:w.q+wt w.doms<=100
 old:∀ e∈w.tr,(0<e.old/\e.old<32)/\e.x<w.doms.length
structure SH (w:b8) (Z:ag):Prop where
 ok:dI Z
 a:Z[1]?=some (.attrs (pk w))
 i:Z[2]?=some (.inst 277 1)
 d:Z[3]?=some (.lst (w.doms.map cb))
 f:Z[4]?=some (.lst (w.firsts.map cb))
 t:Z[5]?=some (.lst (w.tr.map ig))
 m:Z[w.kM]?=some (.lst (w.marks.map aO))
 n:Z[w.kN]?=some (.idct w.q)
structure Fr (w:b8) (Z Z':ag):Prop where
 len:Z'.length=Z.length
 at':∀ i,i≠1->i≠3->i≠4->i≠5->i≠w.kM->i≠w.kN->Z'[i]?=Z[i]?
section
variable {c:d8}{n:Nat}{ρ:aL}{Z Z1 Z':ag}{w:b8}{o:Expr}{x:Str}{p p':Pos}{v:V}
theorem sg {k d:Nat}{C:Addr}{fs:List (Str×V)}(h:ev c n ρ Z o=some (.own k,Z1)) (h1:Z1[k]?=some (.inst C d)) (h2:Z1[d]?=some (.attrs fs)) (h3:c.att C x=true) (h4:lk x fs=some v):ev c (n+1) ρ Z (.Attribute o x p)=some (v,Z1):=by
 show (ev c n ρ Z o).bind _=_;refine aa (h ..) ?_;show (match Z1[k]? with
   | some (.inst C d)=>(match Z1[d]? with
    | some (.attrs fs)=>if c.att C x then (lk x fs).map (·,Z1) else none
    | _=>none)
   | _=>none)=_
 refine aa (h1 ..) ?_;show (match Z1[d]? with
    | some (.attrs fs)=>if c.att C x then (lk x fs).map (·,Z1) else none
    | _=>none)=_
 refine aa (h2 ..) ?_;show (if c.att C x then (lk x fs).map (·,Z1) else none)=_;refine aa (h3 ..) (aa (h4 ..) ?_);rfl
theorem dX {m:Nat}(H:SH w Z1) (h:ev (bD m) n ρ Z o=some (.own 2,Z1)) (h3:iX 277 x=true) (h4:lk x (pk w)=some v):ev (bD m) (n+1) ρ Z (.Attribute o x p)=some (v,Z1):=sg h H.i H.a h3 h4
theorem rY {m:Str}{k d:Nat}{C f:Addr}{fs:List (Str×V)}{as:List Expr}{vs:List V}{Z2:ag}(h:ev c n ρ Z o=some (.own k,Z1)) (h1:Z1[k]?=some (.inst C d)) (h2:Z1[d]?=some (.attrs fs)) (h3:lk m fs=none) (h4:c.mth C m=some f) (h5:evs c n ρ Z1 as=some (vs,Z2)) (h6:c.Φ f (.own k::vs) Z2=some (v,Z')) :
  ev c (n+1) ρ Z (.Call (.Attribute o m p) as [] p')=some (v,Z'):=by
 show (ev c n ρ Z o).bind (fun (v,Z)=>(gx c Z m v).bind fun t=>(evs c n ρ Z as).bind fun (vs,Z)=>gu c m vs Z t)=_;refine aa (h ..) ?_;show (match Z1[k]? with
  | some (.inst C d)=>(match Z1[d]? with
   | some (.attrs fs)=>if (lk m fs).isNone then (c.mth C m).map fun f=>DF.fn f (.own k) else none
   | _=>none)
  | some (.lst _)=>some (.cell k)
  | _=>none).bind _=_
 refine aa (h1 ..) ?_;show (match Z1[d]? with
   | some (.attrs fs)=>if (lk m fs).isNone then (c.mth C m).map fun f=>DF.fn f (.own k) else none
   | _=>none).bind _=_
 refine aa (h2 ..) ?_;show (if (lk m fs).isNone then (c.mth C m).map fun f=>DF.fn f (.own k) else none).bind _=_;refine aa (h3 ..) (aa (h4 ..) ?_);show (evs c n ρ Z1 as).bind _=_;refine aa (h5 ..) ?_;exact h6
theorem dO {m:Str}{k:Nat}{f:Addr}{as:List Expr}{vs:List V}{Z2:ag}(H:SH w Z1) (h:ev (bD k) n ρ Z o=some (.own 2,Z1)) (h3:lk m (pk w)=none) (h4:rD 277 m=some f) (h5:evs (bD k) n ρ Z1 as=some (vs,Z2)) (h6:cV k f (.own 2::vs) Z2=some (v,Z')) :
  ev (bD k) (n+1) ρ Z (.Call (.Attribute o m p) as [] p')=some (v,Z'):=rY h H.i H.a h3 h4 h5 h6
theorem cD {k:Nat}{l:List V}(h:Z[k]?=some (.lst l)):bO Z (.own k)=some l:=by show (match Z[k]? with | some (.lst l)=>some l | _=>none)=_;exact aa (h ..) rfl
theorem Ws.dlm (W:Ws w):(w.doms.map cb).length<=lim:=by have:=W.len;refine aa (ah ..) ?_;unfold Mine.lim;exact Ks this
theorem Ws.trl (W:Ws w):(w.tr.map ig).length<=lim:=by have:=W.tr;refine aa (ah ..) ?_;unfold Mine.lim;exact FB this
theorem lR {m:Nat}(h:m<32):(iv m).length<=lim:=dM (af (nJ h) (by decide))
theorem rK {m:Nat}(h:m<32):(iv m).length<=100:=af (nJ h) (by decide)
theorem fA {n m:Nat}:cO n (cb m)=true:=eT _ _
variable {m x:Nat}
theorem C6 (h:w.doms[x]?=some m):(w.doms.map cb)[x]?=some (cb m):=by refine aa (List.getElem?_map ..) (aa (h ..) ?_);rfl
theorem bj {α:Type}{l:List α}{x:Nat}{a:α}(h:l[x]?=some a):x<l.length:=(List.getElem?_eq_some_iff.mp h).1
theorem Ws.get (W:Ws w) (h:w.doms[x]?=some m):0<m/\m<32:=W.dom m (List.mem_of_getElem? h)
theorem kE {k:Nat}{i:Expr}(H:SH w Z) (W:Ws w) (hx:w.doms[x]?=some m) (hi:BN i=true) (h:ev (bD k) (n+1) ρ Z o=some (.own 2,Z)) (h2:ev (bD k) (n+2) ρ Z i=some (.int (x:Nat),Z)):ev (bD k) (n+3) ρ Z (.Subscript (.Attribute o (T "domains") p) i p')=some (cb m,Z) :=
 bI hi (dX H h rfl rfl) h2 (cD H.d) W.dlm (pi (by exact aa (ah ..) (bj hx))) (C6 hx)
theorem zi (ho:dI Z) (h:0<m/\m<32):cV (n+1) 42 [cb m] Z=some (.int (lo m),Z):=by
 have e:=(fO ⟨m,h.2⟩ (bg.mp h.1)).1;unfold cb;dsimp only at e;refine aa (e ..) ?_;exact lh ho (by exact aa (aH (e ..)) (lR h.2))
theorem zt (ho:dI Z) (h:0<m/\m<32):cV (n+1) 49 [cb m] Z=some (.int (hi m),Z):=by
 have e:=(fO ⟨m,h.2⟩ (bg.mp h.1)).2.1;have l:=rK h.2;unfold cb;dsimp only at e;rw [e] at l ⊢;exact kn ho (by rw [ai,aE] at l;unfold lim;exact Kr l)
variable (H:SH w Z) (W:Ws w)
include H W
theorem vC:cV (n+1) 155 [.own 2] Z=some (.int w.doms.length,Z):=by
 show cL false Z (cB (bD n) 200 [(T "self",.own 2)] Z (bm 20 2))=_;refine bS H.ok rfl (bo rfl (cW (i:= "len") rfl (am (dX H rfl rfl rfl)) (cG (cD H.d) W.dlm)) ⟨?_,rfl⟩);refine aa (ah ..) ?_;rfl
theorem jO (hx:w.doms[x]?=some m):cV (n+1) 162 [.own 2,.int (x:Nat)] Z=some (cb m,Z):=by
 show cL false Z (cB (bD n) 200 [(T "self",.own 2),(T "x",.int (x:Nat))] Z (bm 20 3))=_;exact bS H.ok fA (bo rfl (kE H W hx rfl rfl rfl) ⟨rfl,rfl⟩)
theorem rk (hx:w.doms[x]?=some m):cV (n+2) 176 [.own 2,.int (x:Nat)] Z=some (.int (lo m),Z):=by
 show cL false Z (cB (bD (n+1)) 200 [(T "self",.own 2),(T "x",.int (x:Nat))] Z (bm 20 5))=_;exact bS H.ok rfl (bo rfl (bx rfl (am (kE H W hx rfl rfl rfl)) (zi H.ok (W.get hx))) ⟨rfl,rfl⟩)
theorem oh (hx:w.doms[x]?=some m):cV (n+2) 183 [.own 2,.int (x:Nat)] Z=some (.int (hi m),Z):=by
 show cL false Z (cB (bD (n+1)) 200 [(T "self",.own 2),(T "x",.int (x:Nat))] Z (bm 20 6))=_;exact bS H.ok rfl (bo rfl (bx rfl (am (kE H W hx rfl rfl rfl)) (zt H.ok (W.get hx))) ⟨rfl,rfl⟩)
theorem yw {v:Int}(hv:0<=v/\v<8) (hx:w.doms[x]?=some m):cV (n+3) 190 [.own 2,.int (x:Nat),.int v] Z=some (.bool (decide (v∈bk m)),Z):=by
 show cL false Z (cB (bD (n+2)) 200 [(T "self",.own 2),(T "x",.int (x:Nat)),(T "v",.int v)] Z (bm 20 7))=_;refine bS H.ok rfl (bo rfl (bx rfl (ap (kE H W hx rfl rfl rfl) (am rfl)) (Bc H.ok (lR (W.get hx).2))) ⟨?_,rfl⟩);refine be (kf hv) fun v Q0=>?_;subst Q0;exact congrArg V.bool (CV ⟨m,(W.get hx).2⟩ v)
theorem lm (hx:w.doms[x]?=some m):cV (n+1) 197 [.own 2,.int (x:Nat)] Z=some (.bool (fx m),Z):=by
 show cL false Z (cB (bD n) 200 [(T "self",.own 2),(T "x",.int (x:Nat))] Z (bm 20 8))=_;have h:=W.get hx;have e:=(fO ⟨m,h.2⟩ (bg.mp h.1)).1;have e2:=CW ⟨m,h.2⟩ (bg.mp h.1);dsimp only at e e2;refine aa (e2 ..) ?_;have hl:=lR h.2;have g:(List.map b9 (iv m))[0]?=some (b9 ((iv m).headD (0,0))):=by refine aa (e ..) ?_;rfl
 have i0:cy 0 (List.map b9 (iv m)).length=some 0:=by refine aa (e ..) ?_;exact pj
 have hl':(List.map b9 (iv m)).length<=lim:=by refine aa (ah ..) ?_;exact hl
 refine bS H.ok rfl (bu rfl (kE H W hx rfl rfl rfl) (ρ':=[(T "self",.own 2),(T "x",.int (x:Nat)),(T "domain",cb m)]) rfl (bo rfl (fP (d:=decide ((iv m).length=1)) (d':=decide ((iv m).length=1)&&decide (((iv m).headD (0,0)).1=((iv m).headD (0,0)).2)) (bq (cW rfl (am rfl) (cG rfl hl')) rfl (dG.trans (by exact aa (ah ..) (congrArg some (decide_eq_decide.mpr (by lia)))))) (fun h=>?_) fun h=>⟨rfl,by refine aa (h ..) ?_;rfl⟩) ⟨?_,rfl⟩))
 ·refine aa (h ..) (aa (Bool.true_and ..) ?_);exact bq (bI rfl (bI rfl rfl rfl rfl hl' i0 g) rfl rfl dC pj rfl) (bI rfl (bI rfl rfl rfl rfl hl' i0 g) rfl rfl dC (k:=1) rfl rfl) dG
 ·show V.bool _=V.bool _;congr 1
  cases decide ((iv m).length=1)<;>rfl
theorem pD (hx:w.doms[x]?=some m):cV (n+1) 204 [.own 2,.int (x:Nat)] Z=some (.int (lo m),Z):=by
 show cL false Z (cB (bD n) 200 [(T "self",.own 2),(T "x",.int (x:Nat))] Z (bm 20 9))=_;have h:=W.get hx;have e:=(fO ⟨m,h.2⟩ (bg.mp h.1)).1;dsimp only at e;have hl:=lR h.2;have g:(List.map b9 (iv m))[0]?=some (b9 ((iv m).headD (0,0))):=by refine aa (e ..) ?_;rfl
 have i0:cy 0 (List.map b9 (iv m)).length=some 0:=by refine aa (e ..) ?_;exact pj
 have hl':(List.map b9 (iv m)).length<=lim:=by refine aa (ah ..) ?_;exact hl
 exact bS H.ok rfl (bo rfl (bI rfl (bI rfl (kE H W hx rfl rfl rfl) rfl rfl hl' i0 g) rfl rfl dC pj rfl) ⟨rfl,rfl⟩)
end
theorem vm {n:Nat}(y:Option (List cR)):cO n (vf y)=true:=by
 induction y using Oy with
 | none=>rfl
 | some l=>exact bw (fun ζ=>rfl) l
theorem py {n:Nat}(e:m8):cO n (ig e)=true:=by
 show (cO n (cb e.old)&&(cO n (vf e.why)&&true))=true;refine aa (fA ..) (aa (vm ..) ?_);rfl
theorem dW {Z:ag}{k:Nat}{c:Cell}(ho:dI Z) (h:mN Z.length c=true):dI (Z.set k c):=by
 unfold dI at ho ⊢;rw [aF,List.all_eq_true] at *;intro c hc;rcases List.mem_or_eq_of_mem_set hc with hc | rfl
 ·exact ho c hc
 ·exact h
theorem apart.ne {k:Nat}(h:apart k):k≠1/\k≠2/\k≠3/\k≠4/\k≠5/\k≠9/\k≠10/\k≠11/\k≠12/\k≠0:=by unfold apart at h;exact Kq h
section
variable {n:Nat}{Z Z':ag}{w:b8}(H:SH w Z) (W:Wk w)
theorem cQ {Z:ag}{i:Nat}{c c':Cell}(h:Z[i]?=some c):(Z.set i c')[i]?=some c':=by
 exact aa (List.getElem?_set_self (bj h) ..) rfl
theorem Fr.refl:Fr w Z Z:=⟨rfl,fun ζ ζ ζ ζ ζ ζ ζ=>rfl⟩
theorem Fr.trans {Z1 Z2:ag}{w':b8}(f:Fr w Z Z1) (g:Fr w' Z1 Z2) (h1:w'.kM=w.kM) (h2:w'.kN=w.kN):Fr w Z Z2 :=
 ⟨g.len.trans f.len,fun i a b c d e f'=>(g.at' i a b c d (h1▸e) (h2▸f')).trans (f.at' i a b c d e f')⟩
theorem fW {i:Nat}{c:Cell}(h:i=1\/i=3\/i=4\/i=5\/i=w.kM\/i=w.kN):Fr w Z (Z.set i c) :=
 ⟨aF,fun j a b c d e f=>ae (by rintro rfl;exact Kp h a b c d e f)⟩
include H
theorem MQ {f:Bool}{cl:List cR}:mN Z.length (.attrs (pk {w with failed:=f,clash:=cl}))=true:=by
 show (cO _ _&&(cO _ _&&(cO _ _&&(cO _ _&&(cO _ _&&(cO _ _&&(cO _ _&&(cO _ _&&true))))))))=true;have h1:∀ {k:Nat}{c:Cell},Z[k]?=some c->cO Z.length (.own k)=true:=fun h=>aA (bj h);refine aa (h1 H.d ..) (aa (h1 H.f ..) (aa (h1 H.t ..) (aa (h1 H.m ..) (aa (h1 H.n ..) (aa (show cO Z.length (.tup (cl.map bn))=true from bw (fun ζ=>rfl) cl ..) ?_)))));rfl
include W
theorem yJ {f : Bool} {cl : List cR} : SH {w with failed := f, clash := cl} (Z.set 1 (.attrs (pk {w with failed := f, clash := cl}))) :=
 ⟨dW H.ok (MQ H), cQ H.a, (ae (by decide)).trans H.i, (ae (by decide)).trans H.d, (ae (by decide)).trans H.f, (ae (by decide)).trans H.t, (ae (Ne.symm W.kM.ne.1)).trans H.m, (ae (Ne.symm W.kN.ne.1)).trans H.n⟩
theorem Be {l : List Nat} : SH {w with doms := l} (Z.set 3 (.lst (l.map cb))) :=
 ⟨dW H.ok (bw (fun ζ => fA) l), (ae (by decide)).trans H.a, (ae (by decide)).trans H.i, cQ H.d, (ae (by decide)).trans H.f, (ae (by decide)).trans H.t, (ae (Ne.symm W.kM.ne.2.2.1)).trans H.m, (ae (Ne.symm W.kN.ne.2.2.1)).trans H.n⟩
theorem Nm {l : List Nat} : SH {w with firsts := l} (Z.set 4 (.lst (l.map cb))) :=
 ⟨dW H.ok (bw (fun ζ => fA) l), (ae (by decide)).trans H.a, (ae (by decide)).trans H.i, (ae (by decide)).trans H.d, cQ H.f, (ae (by decide)).trans H.t, (ae (Ne.symm W.kM.ne.2.2.2.1)).trans H.m, (ae (Ne.symm W.kN.ne.2.2.2.1)).trans H.n⟩
theorem DM {l : List m8} : SH {w with tr := l} (Z.set 5 (.lst (l.map ig))) :=
 ⟨dW H.ok (bw (fun ζ => py _) l), (ae (by decide)).trans H.a, (ae (by decide)).trans H.i, (ae (by decide)).trans H.d, (ae (by decide)).trans H.f, cQ H.t, (ae (Ne.symm W.kM.ne.2.2.2.2.1)).trans H.m, (ae (Ne.symm W.kN.ne.2.2.2.2.1)).trans H.n⟩
theorem Nl {l : List Nat} : SH {w with marks := l} (Z.set w.kM (.lst (l.map aO))) :=
 ⟨dW H.ok (bw (fun ζ => rfl) l), (ae W.kM.ne.1).trans H.a, (ae W.kM.ne.2.1).trans H.i, (ae W.kM.ne.2.2.1).trans H.d, (ae W.kM.ne.2.2.2.1).trans H.f, (ae W.kM.ne.2.2.2.2.1).trans H.t, cQ H.m, (ae W.ne).trans H.n⟩
theorem Nk {q : Nat} : SH {w with q := q} (Z.set w.kN (.idct q)) :=
 ⟨dW H.ok rfl, (ae W.kN.ne.1).trans H.a, (ae W.kN.ne.2.1).trans H.i, (ae W.kN.ne.2.2.1).trans H.d, (ae W.kN.ne.2.2.2.1).trans H.f, (ae W.kN.ne.2.2.2.2.1).trans H.t, (ae (Ne.symm W.ne)).trans H.m, cQ H.n⟩
end
section
variable {c:d8}{n:Nat}{ρ:aL}{Z Z1 Z2:ag}{o i:Expr}{p:Pos}{v:V}
theorem i4 {k d:Nat}{C:Addr}{x:Str}{fs:List (Str×V)}(h:ev c n ρ Z o=some (.own k,Z1)) (h1:Z1[k]?=some (.inst C d)) (h2:Z1[d]?=some (.attrs fs)) (h3:c.att C x=true) (h4:eX v=false) (h5:fs.length<=400):pn c n ρ Z v (.Attribute o x p)=some (ρ,Z1.set d (.attrs (st x v fs))):=by
 show (ev c n ρ Z o).bind _=_;refine aa (h ..) ?_;show (match Z1[k]? with
   | some (.inst C d)=>(match Z1[d]? with
    | some (.attrs fs)=>if c.att C x&&!eX v&&decide (fs.length<=400) then some (ρ,Z1.set d (.attrs (st x v fs))) else none
    | _=>none)
   | _=>none)=_
 refine aa (h1 ..) ?_;show (match Z1[d]? with
    | some (.attrs fs)=>if c.att C x&&!eX v&&decide (fs.length<=400) then some (ρ,Z1.set d (.attrs (st x v fs))) else none
    | _=>none)=_
 refine aa (h2 ..) ?_;show (if c.att C x&&!eX v&&decide (fs.length<=400) then some (ρ,Z1.set d (.attrs (st x v fs))) else none)=_;refine aa (h3 ..) (aa (h4 ..) (aa (aA h5 ..) ?_));rfl
theorem Ds {k q:Nat}{j:Int}(h1:ev c n ρ Z o=some (.own k,Z1)) (h2:ev c n ρ Z1 i=some (.int j,Z2)) (h3:Z2[k]?=some (.idct q)) (h4:q<=lim):pn c n ρ Z v (.Subscript o i p)=some (ρ,Z2.set k (.idct (q+1))):=by
 show (ev c n ρ Z o).bind _=_;refine aa (h1 ..) ?_;show (ev c n ρ Z1 i).bind _=_;refine aa (h2 ..) ?_;show (match Z2[k]?,V.int j with
   | some (.lst l),.int j=>if l.length<=lim then (cy j l.length).map fun q=>(ρ,Z2.set k (.lst (l.set q v))) else none
   | some (.sdct fs),.str x=>if fs.length<=400 then some (ρ,Z2.set k (.sdct (st x v fs))) else none
   | some (.idct q),.int _=>if q<=lim then some (ρ,Z2.set k (.idct (q+1))) else none
   | _,_=>none)=_
 refine aa (h3 ..) ?_;exact if_pos h4
end
theorem AV {k n:Nat}{ρ:aL}{Z:ag}{w:b8}{o:Expr}{p:Pos}{f:Bool}(H:SH w Z) (h:ev (bD k) n ρ Z o=some (.own 2,Z)):pn (bD k) n ρ Z (.bool f) (.Attribute o (T "is_failed") p)=some (ρ,Z.set 1 (.attrs (pk {w with failed:=f}))) :=
 i4 h H.i H.a rfl rfl (by simp [pk])
theorem AW {k n:Nat}{ρ:aL}{Z:ag}{w:b8}{o:Expr}{p:Pos}{L:List cR}(H:SH w Z) (h:ev (bD k) n ρ Z o=some (.own 2,Z)):pn (bD k) n ρ Z (.tup (L.map bn)) (.Attribute o (T "clash") p)=some (ρ,Z.set 1 (.attrs (pk {w with clash:=L}))) :=
 i4 h H.i H.a rfl rfl (by simp [pk])
noncomputable def iT (w:b8) (l:cR) (x m:Nat) (why:Option (List cR)) (sp:Int):Bool×b8 :=
 if e9 l.s l.k m=0 then (false,{w with failed:=true,clash:=why.getD []++[ye l]})
 else if e9 l.s l.k m=m then (true,w)
 else (true,{w with tr:=w.tr++[⟨x,m,l,why,sp⟩],doms:=w.doms.set x (e9 l.s l.k m),q:=w.q+1})
noncomputable def Ends (n:Nat) (f:Addr) (vs:List V) (Z:ag) (P:V->ag->Prop):Prop:=∃ v Z',cV n f vs Z=some (v,Z')/\P v Z'
section
variable {n:Nat}{Z Z':ag}{w:b8}{m x:Nat}(H:SH w Z) (W:Ws w)
include H W
theorem vF {l:cR}(hl:l.x=x) (hx:w.doms[x]?=some m):cV (n+5) 218 [.own 2,bn l] Z=some (.int (jk l (iv m)),Z):=by
 obtain ⟨lx,s,k⟩:=l;subst hl;show cL false Z (cB (bD (n+4)) 200 [(T "self",.own 2),(T "literal",bn ⟨(x:Nat),s,k⟩)] Z (bm 20 11))=_;exact bS H.ok rfl (bo rfl (bx rfl (ap rfl (am (kE H W hx rfl rfl rfl))) (yx H.ok (rK (W.get hx).2))) ⟨rfl,rfl⟩)
theorem yC {L : List cR} {v : V} (hv : ∀ c, bO (Z.set 1 c) v = some (L.map bn)) (hL : L.length <= 1000) : Ends (n + 1) 246 [.own 2, v] Z (fun u Z' => u = .bool false /\ SH {w with failed := true, clash := L} Z' /\ Fr w Z Z') := by
 have H1 := yJ H W.toWk (f := true) (cl := w.clash);have H2 := yJ H1 ⟨W.kM, W.kN, W.ne⟩ (f := true) (cl := L);show ∃ u Z', cL false Z (cB (bD n) 200 [(T "self", .own 2), (T "reasons", v)] Z (bm 20 15)) = some (u, Z') /\ _;refine gf (bu rfl (v := .bool true) rfl (AV H rfl) (bu rfl (v := .tup (L.map bn)) (fj (i := "tuple") rfl (am rfl) ?_) (AW H1 rfl) (bo rfl rfl ⟨H2.ok, ?_, rfl, rfl, H2, (fW (.inl rfl)).trans (fW (.inl rfl)) rfl rfl⟩)))
 ·show (bO _ v).bind _ = _;refine aa (hv ..) ?_; exact if_pos (by refine aa (ah ..) ?_; unfold lim; exact Fq hL)
 ·exact aa (aF ..) (aa (aF ..) rfl)
end
theorem su {a b:List V}(h:a.length<=lim) (h2:b.length<=lim):ft .Add (.tup a) (.tup b)=some (.tup (a++b)):=if_pos ⟨h,h2⟩
theorem aI {α:Type}{l:List α}{f:α->V}(h:l.length<=1000):(l.map f).length<=lim:=by refine aa (ah ..) ?_;unfold lim;exact Fq h
section
variable {n:Nat}{Z Z':ag}{w:b8}{m x:Nat}(H:SH w Z) (W:Ws w)
include H W
theorem pI {l:cR}{why:Option (List cR)}{sp:Int}(hl:l.x=x) (hk:0<=l.k/\l.k<8) (hx:w.doms[x]?=some m) (hw:(why.getD []).length<=900) :
  Ends (n+5) 225 [.own 2,bn l,vf why,.int sp] Z (fun u Z'=>u=.bool (iT w l x m why sp).1/\SH (iT w l x m why sp).2 Z'/\Fr w Z Z'):=by
 obtain ⟨lx,s,k⟩:=l;subst hl;have hm:=W.get hx;have F:=fz (x:=(x:Nat)) (s:=s) hk hm.2;generalize hE:iT w ⟨(x:Nat),s,k⟩ x m why sp=E
 let ρ0:aL:=[(T "self",.own 2),(T "literal",bn ⟨(x:Nat),s,k⟩),(T "reasons",vf why),(T "speaker",.int sp)]
 let ρ1:aL:=ρ0++[(T "x",.int (x:Nat)),(T "old",cb m),(T "fresh",cb (e9 s k m))]
 show ∃ u Z',cL false Z (cB (bD (n+4)) 200 ρ0 Z (bm 20 12))=some (u,Z')/\_;have e1:∀ {N:Nat}{p:Pos},ev (bD (n+4)) (N+1) (ρ0++[(T "x",.int (x:Nat))]) Z (.Name (T "self") p)=some (.own 2,Z):=rfl;refine gf (bu rfl (v:=.int (x:Nat)) (bI rfl rfl rfl rfl eI pj rfl) (ρ':=ρ0++[(T "x",.int (x:Nat))]) rfl (bu rfl (kE H W hx rfl rfl rfl) (ρ':=ρ0++[(T "x",.int (x:Nat)),(T "old",cb m)]) rfl (bu rfl (v:=cb (e9 s k m)) (bx rfl (ap rfl (am rfl)) ((nr H.ok (rK hm.2)).trans (by refine aa (F.1 ..) ?_;rfl))) (ρ':=ρ1) rfl ?_)));have z:cb (e9 s k m)=.tup []↔e9 s k m=0:=((⟨fun h=>gc (b:=[]) h,fun h=>congrArg bN h⟩:bN (iv (e9 s k m))=bN []↔iv (e9 s k m)=[]).trans (gA ⟨_,F.2.1⟩).2.2.2);have y:cb (e9 s k m)=cb m↔e9 s k m=m:=⟨fun h=>MH F.2.1 hm.2 (gc h),fun h=>congrArg cb h⟩;refine bW rfl (bq rfl rfl (mr (a':=cb (e9 s k m)) (b':=bN []) (d:=decide (e9 s k m=0)) rfl rfl (wo _) (wo []) (by rw [decide_eq_true_iff];exact z.symm))) (fun h=>?_) fun h=>aY (bW rfl (bq rfl rfl (mr (a':=cb (e9 s k m)) (b':=cb m) (d:=decide (e9 s k m=m)) rfl rfl (wo _) (wo _) (by rw [decide_eq_true_iff];exact y.symm))) (fun h2=>?_) fun h2=>aY ?_)
 ·have h:=ao h
  cases hE.symm.trans (show iT w ⟨(x:Nat),s,k⟩ x m why sp=(false,{w with failed:=true,clash:=why.getD []++[ye ⟨(x:Nat),s,k⟩]}) from if_pos h)
  refine bK (yC (n:=n+3) H W (L:=why.getD []++[ye ⟨(x:Nat),s,k⟩]) (v:=.tup ((why.getD []++[ye ⟨(x:Nat),s,k⟩]).map bn)) (fun ζ=>rfl) (by refine aa (ai ..) (aa (aE ..) ?_);exact Io hw)) fun ζ Z' e Q0 H' F'=>?_;subst Q0;refine bo rfl (dO H rfl rfl rfl (am (cF (v:=.tup ((why.getD []).map bn)) ?_ (cf (am (bx rfl (am rfl) (pG H.ok)))) ?_)) e) ⟨H'.ok,F'.len,rfl,rfl,H',F'⟩
  ·induction why using Oy with
   | none=>rfl
   | some l=>rfl
  ·refine aa (su (aI (zc hw)) (by simp [lim]) ..) (aa (aK ..) ?_);rfl
 ·cases hE.symm.trans (show iT w ⟨(x:Nat),s,k⟩ x m why sp=(true,w) from (if_neg (of_decide_eq_false h)).trans (if_pos (ao h2)))
  exact bo rfl rfl ⟨H.ok,rfl,rfl,rfl,H,Fr.refl⟩
 ·cases hE.symm.trans (show iT w ⟨(x:Nat),s,k⟩ x m why sp=(true,{w with tr:=w.tr++[⟨x,m,⟨(x:Nat),s,k⟩,why,sp⟩],doms:=w.doms.set x (e9 s k m),q:=w.q+1}) from (if_neg (of_decide_eq_false h)).trans (if_neg (of_decide_eq_false h2)))
  let e:m8:=⟨x,m,⟨(x:Nat),s,k⟩,why,sp⟩
  have K:∀ {t:List m8}{d:List Nat},Wk {w with tr:=t,doms:=d}:=⟨W.kM,W.kN,W.ne⟩;have e5:Z.set 5 (.lst (w.tr.map ig++[ig e]))=Z.set 5 (.lst ((w.tr++[e]).map ig)):=by refine aa (aK ..) ?_;rfl
  have e3:∀ τ:ag,τ.set 3 (.lst ((w.doms.map cb).set x (cb (e9 s k m))))=τ.set 3 (.lst ((w.doms.set x (e9 s k m)).map cb)):=by intro τ;exact aa (List.map_set ..) rfl
  have H1:=DM H W.toWk (l:=w.tr++[e]);have H2:=Be H1 K (l:=w.doms.set x (e9 s k m));have H3:=Nk H2 K (q:=w.q+1);refine cJ rfl (c9 (dX H rfl rfl rfl) H.t (am (v:=ig e) rfl) H.t W.trl cK) ?_;refine aa (e5 ..) ?_;refine bu rfl (v:=cb (e9 s k m)) rfl (sB (dX H1 rfl rfl rfl) rfl H1.d W.dlm (pi (by exact aa (ah ..) (bj hx)))) ?_;refine aa (e3 ..) ?_;refine bu rfl (v:=.bool true) rfl (Ds (dX H2 rfl rfl rfl) rfl H2.n (by have:=W.q;unfold lim;dsimp only;exact FB this)) (bo rfl rfl ⟨H3.ok,?_,rfl,rfl,H3,?_⟩)
  ·exact aa (aF ..) (aa (aF ..) (aa (aF ..) rfl))
  ·exact ((fW Fe).trans (fW BE) rfl rfl).trans (fW (.inr (.inr (.inr (.inr (.inr rfl)))))) rfl rfl
theorem ua {l:cR}{why:List cR}{u:V}(hu:bO Z u=some (why.map bn)) (hl:l.x=x) (hk:0<=l.k/\l.k<8) (hx:w.doms[x]?=some m) (hw:why.length<=900) :
  Ends (n+6) 232 [.own 2,bn l,u] Z (fun u Z'=>u=.bool (iT w l x m (some why) (-1)).1/\SH (iT w l x m (some why) (-1)).2 Z'/\Fr w Z Z'):=by
 show ∃ u Z',cL false Z (cB (bD (n+5)) 200 [(T "self",.own 2),(T "literal",bn l),(T "reasons",_)] Z (bm 20 13))=some (u,Z')/\_;refine bK (pI (n:=n) H W hl hk hx (why:=some why) (sp:= -1) hw) fun ζ Z' e Q0 H' F'=>?_;subst Q0;refine gf (bo rfl (dO H rfl rfl rfl (ap (v:=bn l) rfl (ap (v:=.tup (why.map bn)) (fj (i:= "tuple") rfl (am rfl) ?_) (am (dX H rfl rfl rfl)))) e) ⟨H'.ok,F'.len,rfl,rfl,H',F'⟩);show (bO Z u).bind _=_;refine aa (hu ..) ?_;exact if_pos (aI (zc hw))
theorem ue {l:cR}(hl:l.x=x) (hk:0<=l.k/\l.k<8) (hx:w.doms[x]?=some m) :
  Ends (n+6) 239 [.own 2,bn l] Z (fun u Z'=>u=.bool (iT w l x m none (-1)).1/\SH (iT w l x m none (-1)).2 Z'/\Fr w Z Z'):=by
 show ∃ u Z',cL false Z (cB (bD (n+5)) 200 [(T "self",.own 2),(T "literal",bn l)] Z (bm 20 14))=some (u,Z')/\_;refine bK (pI (n:=n) H W hl hk hx (why:=none) (sp:= -1) (by simp)) fun ζ Z' e Q0 H' F'=>?_;subst Q0;exact gf (bo rfl (dO H rfl rfl rfl (ap (v:=bn l) rfl (ap (v:=.none) rfl (am rfl))) e) ⟨H'.ok,F'.len,rfl,rfl,H',F'⟩)
theorem yy:Ends (n+1) 253 [.own 2] Z (fun u Z'=>u=.none/\SH {w with marks:=w.marks++[w.tr.length]} Z'/\Fr w Z Z'):=by
 show ∃ u Z',cL false Z (cB (bD n) 200 [(T "self",.own 2)] Z (bm 20 16))=some (u,Z')/\_;have H1:=Nl H W.toWk (l:=w.marks++[w.tr.length]);have e:∀ τ:ag,τ.set w.kM (.lst (w.marks.map aO++[aO w.tr.length]))=τ.set w.kM (.lst ((w.marks++[w.tr.length]).map aO)):=by intro τ;refine aa (aK ..) ?_;rfl
 refine gf (cJ rfl (c9 (dX H rfl rfl rfl) H.m (am (v:=aO w.tr.length) (cW (i:= "len") rfl (am (dX H rfl rfl rfl)) ((cG (cD H.t) W.trl).trans (by refine aa (ah ..) ?_;rfl)))) H.m (aI (by have:=W.mks;exact Hk this)) cK) ?_);refine aa (e ..) ?_;exact aY ⟨H1.ok,aF,rfl,rfl,H1,fW (.inr (.inr (.inr (.inr (.inl rfl)))))⟩
end
noncomputable def w0:b8:=⟨[],[],[],[],6,7,0,false,[]⟩
theorem vK {n:Nat}{c:Cell}:cV (n+2) 277 [] [c]=some (.own 2,[c,.attrs (pk w0),.inst 277 1,.lst [],.lst [],.lst [],.lst [],.idct 0]):=rfl
section
variable {n:Nat}{Z Z':ag}{w:b8}{m x:Nat}(H:SH w Z) (W:Ws w)
include H W
theorem rj (hm:0<m/\m<32) (hf:w.firsts.length<=10):Ends (n+1) 148 [.own 2,cb m] Z (fun ζ Z'=>SH {w with doms:=w.doms++[m],firsts:=w.firsts++[m]} Z'/\Fr w Z Z'):=by
 show ∃ u Z',cL false Z (cB (bD n) 200 [(T "self",.own 2),(T "domain",cb m)] Z (bm 20 1))=some (u,Z')/\_;have K:∀ {d:List Nat},Wk {w with doms:=d}:=⟨W.kM,W.kN,W.ne⟩;have H1:=Be H W.toWk (l:=w.doms++[m]);have H2:=Nm H1 K (l:=w.firsts++[m]);have e3:Z.set 3 (.lst (w.doms.map cb++[cb m]))=Z.set 3 (.lst ((w.doms++[m]).map cb)):=by refine aa (aK ..) ?_;rfl
 have e4:∀ τ:ag,τ.set 4 (.lst (w.firsts.map cb++[cb m]))=τ.set 4 (.lst ((w.firsts++[m]).map cb)):=by intro τ;refine aa (aK ..) ?_;rfl
 refine gf (cJ rfl (c9 (dX H rfl rfl rfl) H.d (am (v:=cb m) rfl) H.d W.dlm cK) ?_);refine aa (e3 ..) ?_;refine cJ rfl (c9 (dX H1 rfl rfl rfl) H1.f (am (v:=cb m) rfl) H1.f (aI (by dsimp only;exact zb hf)) cK) ?_;refine aa (e4 ..) ?_;refine bW rfl (d:=false) (bq rfl rfl (mr (a':=cb m) (b':=bN []) rfl rfl (wo _) (wo []) ?_)) nofun fun ζ=>aY (bo rfl (cF (cW (i:= "len") rfl (am (dX H2 rfl rfl rfl)) (cG (cD H2.d) (aI ?_))) rfl rfl) ⟨H2.ok,?_,rfl,H2,(fW BE).trans (fW Ko) rfl rfl⟩)
 ·refine ⟨fun h=>(nomatch h),fun h=>?_⟩;have:=(gA ⟨m,hm.2⟩).2.2.2.mp (gc h);dsimp only at this;lia
 ·have:=W.len;simp only [ai,aE];exact E0 this
 ·exact aa (aF ..) (aa (aF ..) rfl)
end
noncomputable def k5 (l:List m8) (d:List Nat):List Nat:=l.foldr (fun e d=>d.set e.x e.old) d
section
variable {n:Nat}{Z Z':ag}{w:b8}
theorem dE {c c':Cell}{i:Nat}(h:Z[i]?=some c):(Z++[c'])[i]?=some c:=(ba (bj h)).trans h
theorem gr {c:Cell}(H:SH w Z) (h:mN (Z.length+1) c=true):SH w (Z++[c]) :=
 ⟨jo H.ok h,dE H.a,dE H.i,dE H.d,dE H.f,dE H.t,dE H.m,dE H.n⟩
theorem yH (H : SH w Z) (W : Wk w) (hs : 13 <= Z.length) {l : List Nat} : SH {w with marks := l, kM := Z.length} ((Z ++ [Cell.lst (l.map aO)]).set 1 (Cell.attrs (pk {w with kM := Z.length}))) := by
 have G := gr H (c := .lst (l.map aO)) (bw (fun ζ => rfl) l);have hN := W.kN.ne.1;refine ⟨dW G.ok ?_, cQ G.a, (ae (by decide)).trans G.i, (ae (by decide)).trans G.d, (ae (by decide)).trans G.f, (ae (by decide)).trans G.t, (ae (by dsimp only; exact ES hs)).trans bJ, (ae (Ne.symm hN)).trans G.n⟩;show (cO _ _ && (cO _ _ && (cO _ _ && (cO _ _ && (cO _ _ && (cO _ _ && (cO _ _ && (cO _ _ && true)))))))) = true;have h1 : ∀ {k : Nat} {c : Cell}, (Z ++ [Cell.lst (l.map aO)])[k]? = some c -> cO (Z ++ [Cell.lst (l.map aO)]).length (.own k) = true := fun h => aA (bj h);refine aa (h1 G.d ..) (aa (h1 G.f ..) (aa (h1 G.t ..) (aa (h1 bJ ..) (aa (h1 G.n ..) (aa (show cO (Z ++ [Cell.lst (l.map aO)]).length (.tup (w.clash.map bn)) = true from bw (fun ζ => rfl) w.clash ..) ?_))))); rfl
theorem yG (H : SH w Z) (W : Wk w) (hs : 13 <= Z.length) : SH {w with q := 0, kN := Z.length} ((Z ++ [Cell.idct 0]).set 1 (Cell.attrs (pk {w with kN := Z.length}))) := by
 have G := gr H (c := .idct 0) rfl;have hM := W.kM.ne.1;refine ⟨dW G.ok ?_, cQ G.a, (ae (by decide)).trans G.i, (ae (by decide)).trans G.d, (ae (by decide)).trans G.f, (ae (by decide)).trans G.t, (ae (Ne.symm hM)).trans G.m, (ae (by dsimp only; exact ES hs)).trans bJ⟩;show (cO _ _ && (cO _ _ && (cO _ _ && (cO _ _ && (cO _ _ && (cO _ _ && (cO _ _ && (cO _ _ && true)))))))) = true;have h1 : ∀ {k : Nat} {c : Cell}, (Z ++ [Cell.idct 0])[k]? = some c -> cO (Z ++ [Cell.idct 0]).length (.own k) = true := fun h => aA (bj h);refine aa (h1 G.d ..) (aa (h1 G.f ..) (aa (h1 G.t ..) (aa (h1 bJ ..) (aa (h1 G.m ..) (aa (show cO (Z ++ [Cell.idct 0]).length (.tup (w.clash.map bn)) = true from bw (fun ζ => rfl) w.clash ..) ?_))))); rfl
theorem oQ {c:d8}{ρ:aL}{Z Z1 Z2:ag}{o u:Expr}{p q:Pos}{v:V}{l:List V}{i:Int}(h:ev c n ρ Z o=some (v,Z1)) (h2:ev c n ρ Z1 u=some (.int i,Z2)) (h3:rd Z2 v=.lst l) (h4:0<=i) (h5:l.length<=lim):ev c (n+1) ρ Z (.Subscript o (.Slice none (some u) none q) p)=if c.owned p.line then some (.own Z2.length,Z2++[Cell.lst (l.take i.toNat)]) else some (.lst (l.take i.toNat),Z2):=by
 show (ev c n ρ Z o).bind _=_;refine aa (h ..) ?_;show (ev c n ρ Z1 u).bind _=_;refine aa (h2 ..) ?_;show (match rd Z2 v with
    | .tup l=>if i= -1/\l.length<=lim/\l.isEmpty=false then some (V.tup l.dropLast,Z2) else none
    | .lst l=>if 0<=i/\l.length<=lim then (if c.owned p.line then some (.own Z2.length,Z2++[Cell.lst (l.take i.toNat)]) else some (.lst (l.take i.toNat),Z2)) else none
    | _=>none)=_
 refine aa (h3 ..) ?_;exact if_pos ⟨h4,h5⟩
noncomputable def Bg:Expr×List Stmt×Pos:=match (bm 20 17)[3]? with | some (Stmt.While t b _ p)=>(t,b,p) | _=>(default,[],default)
noncomputable def yP (mk:Nat):Option m8->aL
 | none=>[(T "self",.own 2),(T "n",.int 1),(T "mark",aO mk)]
 | some e=>[(T "self",.own 2),(T "n",.int 1),(T "mark",aO mk),(T "entry",ig e)]
theorem i9 {m:Nat}(h:m<32):(bk m).length<=5:=(gA ⟨m,h⟩).2.2.1
theorem v6 {mk:Nat}:∀ (k:Nat) (l t:List m8) (d:List Nat) (Z:ag) (o:Option m8) (N:Nat),l.length=k->SH {w with tr:=t++l,doms:=d} Z->Wk w->t.length=mk->d.length<=4->(t++l).length<=1000->(∀ e∈l,e.x<d.length) ->
  Wh (bD n) (N+k+40) (yP mk o) Z Bg.1 Bg.2.1 Bg.2.2 (fun fl ρ Z'=>fl=.next/\(∃ o,ρ=yP mk o)/\SH {w with tr:=t,doms:=k5 l d} Z'/\Fr w Z Z'):=by
 intro k
 induction k with
 | zero =>
  intro l t d Z o N hl H W ht hd hlen hx
  cases List.eq_nil_of_length_eq_zero hl
  rw [List.append_nil] at H hlen;refine wh (d:=false) (bq (cW (i:= "len") (bz o rfl fun ζ=>rfl) (am (dX H (bz o rfl fun ζ=>rfl) rfl rfl)) (cG (cD H.t) (aI hlen))) (v:=.int _) (w:=.int mk) (bz o rfl fun ζ=>rfl) (zR (by refine aa (ah ..) (aa (ht ..) ?_);simp))) nofun fun ζ=>⟨rfl,⟨_,rfl⟩,H,Fr.refl⟩
 | succ k ih =>
  intro l t d Z o N hl H W ht hd hlen hx;rcases List.eq_nil_or_concat l with rfl | ⟨l',e,rfl⟩
  ·cases hl
  rw [List.concat_eq_append] at *;have hl':l'.length=k:=by simpa using hl
  rw [← List.append_assoc] at H hlen;have K:∀ {t:List m8}{d:List Nat},Wk {w with tr:=t,doms:=d}:=⟨W.kM,W.kN,W.ne⟩;have H1:=DM H K (l:=t++l');have H2:=Be H1 K (l:=d.set e.x e.old);have hx':e.x<d.length:=hx e (by simp);have et:(t++l'++[e]).map ig=(t++l').map ig++[ig e]:=by refine aa (aK ..) ?_;rfl
  refine wh (d:=true) (bq (cW (i:= "len") (bz o rfl fun ζ=>rfl) (am (dX H (bz o rfl fun ζ=>rfl) rfl rfl)) (cG (cD H.t) (aI hlen))) (v:=.int _) (w:=.int mk) (bz o rfl fun ζ=>rfl) (zR (by refine aa (ah ..) ?_;simp;exact Kn ht))) (fun ζ=>?_) fun h=>nomatch h;refine bu rfl (v:=ig e) (Z1:=Z.set 5 (Cell.lst ((t++l').map ig))) (c9 (dX H (bz o rfl fun ζ=>rfl) rfl rfl) H.t b0 (H.t.trans (aa (et ..) (by rfl))) (by exact aa (aH (et ..)) (aI hlen)) Am) (ρ':=yP mk (some e)) (bz o rfl fun ζ=>rfl) ?_;refine bu rfl (v:=cb e.old) (bI rfl rfl rfl rfl (by simp [lim]) (k:=1) rfl rfl) (sB (dX H1 rfl rfl rfl) (j:=(e.x:Nat)) (bI rfl rfl rfl rfl (by simp [lim]) pj rfl) H1.d (aI (by dsimp only;exact jJ hd)) (pi (by exact aa (ah ..) (hx')))) (aY ?_);refine aa (aH (List.map_set ..)) ?_;have:=ih l' t (d.set e.x e.old) ((Z.set 5 (Cell.lst ((t++l').map ig))).set 3 (.lst ((d.set e.x e.old).map cb))) (some e) N hl' H2 W ht (by exact aa (aF ..) (hd)) (by simp at hlen ⊢;exact Km hlen) (fun e' h=>by refine aa (aF ..) ?_;exact hx e' (by simp [h]));refine fX this fun fl ρ' Z' h1 Q0 h2 h3 h4=>?_;clear this;subst Q0;refine ⟨.next,ρ',Z',h1,rfl,h2,?_,((fW Fe).trans (fW BE) rfl rfl).trans h4 rfl rfl⟩;(rw [k5];refine aa (List.foldr_append ..) ?_);exact h3
end
theorem BM {c:d8}{n:Nat}{ρ:aL}{Z:ag}{b:List Stmt}{P:V->ag->Prop}(h:Xs c n ρ Z b fun fl ζ Z'=>P (jK fl) Z'):∃ v Z',cL true Z (cB c n ρ Z b)=some (v,Z')/\P v Z':=by
 refine cp h fun fl ρ' Z' h1 h2=>?_;clear h;exact ⟨_,_,by refine aa (h1 ..) ?_;rfl,h2⟩
theorem Oa (m:Nat):ok 16 (cb m):=wo _
theorem wx {l:List Nat}(h:∀ m∈l,0<m/\m<32):V.tup []∉l.map cb:=by
 intro hm;refine aB (aX.mp hm) fun m h1 h2=>?_;have:=(gA ⟨m,(h m h1).2⟩).2.2.2.mp (gc (b:=[]) h2);have:=(h m h1).1;dsimp only at *;exact KU ‹_› this
section
variable {n:Nat}{Z Z':ag}{w:b8}
noncomputable def mR (w:b8) (ms:List Nat) (mk:Nat) (a:Nat):b8:={w with doms:=k5 (w.tr.drop mk) w.doms,tr:=w.tr.take mk,marks:=ms,kM:=a,kN:=a+1,q:=0,failed:=false,clash:=[]}
theorem Bb {ms : List Nat} {mk : Nat} (H : SH w Z) (W : Ws w) (hm : w.marks = ms ++ [mk]) (hk : mk <= w.tr.length) (hx : ∀ e ∈ w.tr, e.x < w.doms.length) (hf : ∀ m ∈ w.firsts, 0 < m /\ m < 32) (hs : 13 <= Z.length) :
  Ends (n + 1) 260 [.own 2, .int 1] Z (fun ζ Z' => SH (mR w ms mk Z.length) Z' /\ Z'.length = Z.length + 2 /\ ∀ i, i < Z.length -> i ≠ 1 -> i ≠ 3 -> i ≠ 4 -> i ≠ 5 -> i ≠ w.kM -> i ≠ w.kN -> Z'[i]? = Z[i]?) := by
 show ∃ u Z', cL true Z (cB (bD n) 200 [(T "self", .own 2), (T "n", .int 1)] Z (bm 20 17)) = some (u, Z') /\ _;have eM : (w.marks.map aO).length = ms.length + 1 := by refine aa (hm ..) ?_; simp
 have lM : (w.marks.map aO).length <= lim := aI (by have := W.mks; exact Hk this);have hix : cy (((w.marks.map aO).length : Int) - 1) (w.marks.map aO).length = some ms.length := by refine aa (eM ..) (aa (show ((ms.length + 1 : Nat) : Int) - 1 = (ms.length : Nat) by exact KT ..) ?_); exact pi Id
 have tk : (w.marks.map aO).take ((((w.marks.map aO).length : Int) - 1)).toNat = ms.map aO := by refine aa (eM ..) (aa (show (((ms.length + 1 : Nat) : Int) - 1).toNat = ms.length by exact KS ..) (aa (hm ..) (aa (aK ..) ?_))); simp
 have eN : ∀ {N : Nat} {ρ : aL} {p p2 p3 p4 p5 p6 : Pos}, lk (T "len") ρ = none -> lk (T "n") ρ = some (.int 1) -> lk (T "self") ρ = some (.own 2) -> ev (bD n) (N + 5) ρ Z (.BinOp (.Call (.Name (T "len") p) [.Attribute (.Name (T "self") p2) (T "marks") p3] [] p4) .Sub (.Name (T "n") p5) p6) = some (.int (((w.marks.map aO).length : Int) - 1), Z) := by
  intro N ρ p p2 p3 p4 p5 p6 h1 h2 h3;have a0 : ev (bD n) (N + 3) ρ Z (.Name (T "len") default) = some (.raw (.builtin "len"), Z) := by
   show (match lk (T "len") ρ with | some v => some (v, Z) | none => (lk (T "len") G0).map (·, Z)) = _;refine aa (h1 ..) ?_; rfl
  have a1 : ev (bD n) (N + 1) ρ Z (.Name (T "self") p2) = some (.own 2, Z) := by
   show (match lk (T "self") ρ with | some v => some (v, Z) | none => (lk (T "self") G0).map (·, Z)) = _;exact aa (h3 ..) rfl
  have a2 : ev (bD n) (N + 4) ρ Z (.Name (T "n") p5) = some (.int 1, Z) := by
   show (match lk (T "n") ρ with | some v => some (v, Z) | none => (lk (T "n") G0).map (·, Z)) = _;exact aa (h2 ..) rfl
  exact cF (cW a0 (am (dX H a1 rfl rfl)) (cG (cD H.m) lM)) a2 rfl
 have H1 := yH H W.toWk hs (l := ms);have hx' : ∀ e ∈ w.tr.drop mk, e.x < w.doms.length := fun e h => hx e (List.mem_of_mem_drop h);have K1 : Wk {w with marks := ms, kM := Z.length} := ⟨Or.inr (Or.inr hs), W.kN, by have := bj H.n; dsimp only; exact BG this⟩;refine BM (bW rfl (d := false) (bq rfl rfl rfl) (fun h => nomatch h) fun ζ => aY (bu rfl (v := aO mk) (bI rfl (dX H rfl rfl rfl) (eN rfl rfl rfl) (cD H.m) lM hix (by refine aa (hm ..) ?_; simp)) (ρ' := yP mk none) rfl (bu rfl (v := .own Z.length) (Z1 := Z ++ [Cell.lst (ms.map aO)]) ?_ (i4 rfl (dE H.i) (dE H.a) rfl rfl (by simp [pk])) ?_)))
 ·refine (oQ (v := .own w.kM) (l := w.marks.map aO) (dX H rfl rfl rfl) (eN rfl rfl rfl) ?_ (by refine aa (eM ..) ?_; exact KR) lM).trans ?_
  ·show (match Z[w.kM]? with | some (.lst l) => V.lst l | _ => .own w.kM) = _;exact aa (H.m ..) rfl
  ·refine aa (tk ..) ?_; rfl
 have H1 : SH {w with marks := ms, kM := Z.length} ((Z ++ [Cell.lst (ms.map aO)]).set 1 (Cell.attrs (st (T "marks") (.own Z.length) (pk w)))) := H1;generalize hτ : (Z ++ [Cell.lst (ms.map aO)]).set 1 (Cell.attrs (st (T "marks") (.own Z.length) (pk w))) = τ at H1;have F1 : τ.length = Z.length + 1 /\ ∀ i, i < Z.length -> i ≠ 1 -> τ[i]? = Z[i]? := by
  subst hτ;exact ⟨by refine aa (aF ..) (aa (ai ..) ?_); rfl, fun i h h1 => (ae (Ne.symm h1)).trans (ba h)⟩
 have L := W.tr;obtain ⟨N, hN⟩ : ∃ N, 156 = N + (w.tr.drop mk).length := ⟨156 - (w.tr.drop mk).length, by refine aa (List.length_drop ..) ?_; exact KQ L⟩;have PL := v6 (n := n) (mk := mk) (w.tr.drop mk).length (w.tr.drop mk) (w.tr.take mk) w.doms τ none N rfl (w := {w with marks := ms, kM := Z.length}) (by refine aa (List.take_append_drop ..) ?_; exact H1) K1 (by refine aa (List.length_take ..) ?_; exact GW hk) W.len (by refine aa (List.take_append_drop ..) ?_; exact KP L) hx';rw [← hN] at PL;refine fX PL fun fl ρ' τ' h1 Q0 Q1 H2 F2 => ?_; clear PL;subst Q0;refine be (Q1) fun o Q2 => ?_; clear Q1; subst Q2;refine i8 rfl ⟨.next, _, _, h1, ?_⟩;have H3 := yG H2 ⟨K1.kM, K1.kN, K1.ne⟩ (by refine aa (F2.len ..) (aa (F1.1 ..) ?_); exact BF hs);have K3 : ∀ {f : Bool} {cl : List cR} {q : Nat}, Wk {w with doms := k5 (w.tr.drop mk) w.doms, tr := w.tr.take mk, marks := ms, kM := Z.length, kN := τ'.length, q := q, failed := f, clash := cl} := ⟨Or.inr (Or.inr hs), Or.inr (Or.inr (by show 13 <= τ'.length; refine aa (F2.len ..) (aa (F1.1 ..) ?_); exact BF hs)), by show Z.length ≠ τ'.length; refine aa (F2.len ..) (aa (F1.1 ..) ?_); exact GL⟩;have H4 := yJ H3 K3 (f := false) (cl := w.clash);have H5 := yJ H4 K3 (f := false) (cl := []);have hl : τ'.length = Z.length + 1 := F2.len.trans F1.1;refine bu rfl (v := .own τ'.length) (Z1 := τ' ++ [Cell.idct 0]) (rfl) (i4 (k := 2) (bz o rfl fun ζ => rfl) (dE H2.i) (dE H2.a) rfl rfl (by simp [pk])) ?_;refine bu rfl (v := .bool false) (bq (v := .tup []) (rfl) (dX H3 (bz o rfl fun ζ => rfl) rfl rfl) (MN (cD H3.f) ⟨rfl, rfl⟩ (cH (fun m => (Oa m).1) _) (eR (fun m => (Oa m).2) _) ⟨(fun h => nomatch h), fun h => absurd h (wx hf)⟩)) (AV H3 (bz o rfl fun ζ => rfl)) ?_;refine bu rfl (v := .tup (([] : List cR).map bn)) (rfl) (AW H4 (bz o rfl fun ζ => rfl)) (aY ⟨?_, ?_, ?_⟩)
 ·have e : mR w ms mk Z.length = {w with doms := k5 (w.tr.drop mk) w.doms, tr := w.tr.take mk, marks := ms, kM := Z.length, kN := τ'.length, q := 0, failed := false, clash := []} := by refine aa (hl ..) ?_; rfl
  show SH (mR w ms mk Z.length) _;refine aa (e ..) ?_; exact H5
 ·refine aa (aF ..) (aa (aF ..) (aa (aF ..) (aa (ai ..) (aa (hl ..) ?_)))); rfl
 ·intro i a b c d e f g;exact aa (ae (Ne.symm b) ..) (aa (ae (Ne.symm b) ..) (aa (ae (Ne.symm b) ..) (aa (ba (ER hl a) ..) (aa (F2.at' i b c d e (by dsimp only; exact KO a) g ..) (aa (F1.2 i a b ..) rfl)))))
end
noncomputable abbrev cI:=List Int
noncomputable def fC (l:cR) (a:cI):Bool:=mT l.s l.k (a.getD l.x.toNat 0)
noncomputable def fY (d:List Nat) (a:cI):Prop:=∀ (x m:Nat),d[x]?=some m->a.getD x 0∈bk m
noncomputable def eE (d:List Nat) (r:cR):Prop:=∃ (x m:Nat),r.x=((x:Nat):Int)/\d[x]?=some m/\∀ v∈bk m,mT r.s r.k v=true
noncomputable def d7 (A:List cI) (ls:List cR) (l:cR):Prop:=∀ a∈A,(∀ r∈ls,fC r a=true)->fC l a=true
noncomputable def oV (tr:List m8) (d:List Nat) (x:Nat):Nat:=match tr.find? (fun e=>e.x==x) with
 | some e=>e.old
 | none=>d.getD x 0
noncomputable def dp (w:b8) (i:Nat):List Nat:=(List.range w.doms.length).map (oV (w.tr.drop i) w.doms)
noncomputable def A2 (A:List cI) (d:List Nat) (e:m8):Prop:=∃ ls,e.why=some ls/\ls.length<=900/\e.lit.x=((e.x:Nat):Int)/\(∀ r∈ls,eE d r)/\d7 A ls e.lit
structure Gd (A:List cI) (w w':b8):Prop where
 tr:∃ es,w'.tr=w.tr++es
 good:∀ i e,w.tr.length<=i->w'.tr[i]?=some e->A2 A (dp w' i) e
 ahead:∀ i,i<=w.tr.length->dp w' i=dp w i
 keep:∀ a∈A,fY w.doms a->fY w'.doms a
 len:w'.doms.length=w.doms.length
 sub:∀ (x m':Nat),w'.doms[x]?=some m'->∃ m,w.doms[x]?=some m/\∀ v∈bk m',v∈bk m
 xs:∀ e∈w'.tr,e∈w.tr\/e.x<w.doms.length
 wt:w'.tr.length+wt w'.doms<=w.tr.length+wt w.doms
 same:w'.firsts=w.firsts/\w'.marks=w.marks/\w'.kM=w.kM/\w'.kN=w.kN
noncomputable def pe (A:List cI) (w:b8):Prop:=w.clash.length<=1000/\(∀ r∈w.clash,eE w.doms r)/\∀ a∈A,∃ r∈w.clash,fC r a=false
structure Out (A:List cI) (w:b8) (S:Prop) (ok:Bool) (w':b8):Prop where
 gd:Gd A w w'
 ws:Ws w'
 fl:w'.failed=!ok
 bad:ok=false->pe A w'/\¬S
 ok:ok=true->(w'=w/\S)\/(w.tr.length<w'.tr.length/\¬S)
noncomputable def eF (d:List Nat) (l:cR):Prop:=∀ (m:Nat),d[l.x.toNat]?=some m->e9 l.s l.k m=m
theorem eE.mono {d d':List Nat}{r:cR}(h:eE d r) (hs:∀ (x m':Nat),d'[x]?=some m'->∃ m,d[x]?=some m/\∀ v∈bk m',v∈bk m) (hl:d'.length=d.length):eE d' r:=by
 refine bG h fun x m h1 h2 h3=>?_;clear h;have:x<d'.length:=hl▸bj h2;refine aB (hs x _ (au this)) fun m0 h4 h5=>?_;rw [h2] at h4;(have q_:=aq h4;clear h4;subst q_);exact ⟨x,_,h1,au this,fun v hv=>h3 v (h5 v hv)⟩
theorem Gd.refl {A:List cI}{w:b8}:Gd A w w :=
 ⟨⟨[],(List.append_nil _).symm⟩,fun i e h1 h2=>absurd (bj h2) (Nat.not_lt_of_le h1),fun ζ ζ=>rfl,fun ζ ζ h=>h,rfl,fun x m h=>⟨m,h,fun ζ h=>h⟩,fun ζ h=>.inl h,aU _,rfl,rfl,rfl,rfl⟩
theorem Gd.le {A:List cI}{w w':b8}(h:Gd A w w'):w.tr.length<=w'.tr.length:=by
 refine be (h.tr) fun es h=>?_;refine aa (h ..) (aa (ai ..) ?_);exact Mb
theorem Gd.trans {A:List cI}{w wc wa:b8}(f:Gd A w wc) (g:Gd A wc wa):Gd A w wa:=by
 refine be (f.tr) fun es h1=>?_;refine be (g.tr) fun es' h2=>?_;refine ⟨⟨es++es',by exact aa (h2 ..) (aa (h1 ..) (aa (List.append_assoc ..) rfl))⟩,fun i e hi he=>?_,fun i hi=>(g.ahead i (af hi f.le)).trans (f.ahead i hi),fun a ha hw=>g.keep a ha (f.keep a ha hw),g.len.trans f.len,fun x m h=>?_,fun e he=>?_,af g.wt f.wt,g.same.1.trans f.same.1,g.same.2.1.trans f.same.2.1,g.same.2.2.1.trans f.same.2.2.1,g.same.2.2.2.trans f.same.2.2.2⟩
 ·by_cases hlt:i<wc.tr.length
  ·refine aa (g.ahead i (Nat.le_of_lt hlt) ..) ?_;refine f.good i e hi ?_;rw [h2,ba hlt] at he;exact he
  ·exact g.good i e (Nat.le_of_not_lt hlt) he
 ·refine aB (g.sub x m h) fun m1 a1 a2=>?_;refine aB (f.sub x m1 a1) fun m2 b1 b2=>?_;exact ⟨m2,b1,fun v hv=>b2 v (a2 v hv)⟩
 ·rcases g.xs e he with h | h
  ·exact f.xs e h
  ·exact .inr (f.len▸h)
theorem Out.seq {A:List cI}{w wc wa:b8}{S S' S'':Prop}{ok:Bool}(h1:Out A w S true wc) (h2:Out A wc S' ok wa) (hS:wc=w->(S'↔S'')):Out A w (S/\S'') ok wa:=by
 refine ⟨h1.gd.trans h2.gd,h2.ws,h2.fl,fun h=>⟨(h2.bad h).1,?_⟩,fun h=>?_⟩
 ·intro Q0;refine bl (Q0) fun hs hs'=>?_;clear Q0;rcases h1.ok rfl with ⟨e, -⟩ | ⟨-, h3⟩
  ·exact (h2.bad h).2 ((hS e).mpr hs')
  ·exact h3 hs
 ·rcases h1.ok rfl with ⟨e,h3⟩ | ⟨h4,h3⟩
  ·subst e;rcases h2.ok h with ⟨e,h5⟩ | ⟨h6,h5⟩
   ·exact .inl ⟨e,h3,(hS rfl).mp h5⟩
   ·exact .inr ⟨h6,fun hh=>h5 ((hS rfl).mpr hh.2)⟩
  ·exact .inr ⟨bc h4 h2.gd.le,fun hh=>h3 hh.1⟩
theorem Out.fail {A:List cI}{w wc:b8}{S S'':Prop}(h1:Out A w S false wc):Out A w (S/\S'') false wc :=
 ⟨h1.gd,h1.ws,h1.fl,fun h=>⟨(h1.bad h).1,fun hh=>(h1.bad h).2 hh.1⟩,fun h=>nomatch h⟩
theorem Out.iff {A:List cI}{w wc:b8}{S S':Prop}{ok:Bool}(h1:Out A w S ok wc) (h:S↔S'):Out A w S' ok wc:=propext h▸h1
theorem tn {l:cR}{v:Int}:mT (ye l).s (ye l).k v=!mT l.s l.k v:=by
 obtain ⟨x,s,k⟩:=l
 induction s using Sg.casesOn
 ·show decide (k+1<=v)=!decide (v<=k);refine aa (aH (decide_not ..)) ?_;exact decide_eq_decide.mpr (by lia)
 ·show decide (v<=k - 1)=!decide (k<=v);refine aa (aH (decide_not ..)) ?_;exact decide_eq_decide.mpr (by lia)
 ·rfl
 ·exact (Bool.not_not _).symm
theorem Ak {l:cR}:(ye l).x=l.x:=by
 obtain ⟨x,s,k⟩:=l
 induction s using Sg.casesOn<;>rfl
theorem oJ {α:Type}{l:List α}{x:Nat}{a b:α}(h:l[x]?=some a):l.getD x b=a:=by refine aa (aQ ..) (aa (h ..) ?_);rfl
theorem zD:∀ m m':Fin 32,bk m=bk m'->m=m':=by decide +kernel
theorem qV {m m':Nat}:∀ {d:List Nat}{x:Nat},d[x]?=some m->wt (d.set x m')+(bk m).length=wt d+(bk m').length
 | [],_,h=>by exact aw h
 | a::d,0,h=>by
  cases h
  show ((bk m').length+wt d)+_=((bk m).length+wt d)+_;exact Ma
 | a::d,x+1,h=>by
  have:=qV (d:=d) (x:=x) (m':=m') h;show ((bk a).length+wt (d.set x m'))+_=((bk a).length+wt d)+_;exact L9 this
theorem zL {d:List Nat}{x:Nat}:oV [] d x=d.getD x 0:=rfl
theorem me {w:b8}:dp w w.tr.length=w.doms:=by
 unfold dp;refine aa (List.drop_length ..) ?_
 apply List.ext_getElem?
 intro i;refine aa (List.getElem?_map ..) ?_;by_cases h:i<w.doms.length
 ·rw [List.getElem?_range h,au h];show some (oV [] w.doms i)=_;exact aa (zL ..) (aa (oJ (au h) ..) rfl)
 ·refine aa (List.getElem?_eq_none (by simpa using h) ..) (aa (List.getElem?_eq_none (by simpa using h) ..) ?_);rfl
theorem CX {m m':Nat}(h:m<32) (h':m'<32) (e:bk m=bk m'):m=m':=congrArg Fin.val (zD ⟨m,h⟩ ⟨m',h'⟩ e)
theorem xF {s:Sg}{k:Int}{m:Nat}(hk:0<=k/\k<8) (h:m<32) (hne:e9 s k m≠m):(bk (e9 s k m)).length<(bk m).length:=by
 have F:=fz (x:=0) (s:=s) hk h;have h1:((bk m).filter (mT s k)).length<=(bk m).length:=List.length_filter_le _ _;refine aa (F.2.2 ..) ?_;refine Nat.lt_of_le_of_ne h1 fun e=>hne (CX F.2.1 h ?_);refine aa (F.2.2 ..) ?_;exact List.filter_eq_self.mpr (List.length_filter_eq_length_iff.mp e)
theorem il {w:b8}{x m m' i:Nat}{l:cR}{y:Option (List cR)}{sp:Int}{q:Nat}(hx:w.doms[x]?=some m) (hi:i<=w.tr.length):dp {w with tr:=w.tr++[⟨x,m,l,y,sp⟩],doms:=w.doms.set x m',q:=q} i=dp w i:=by
 unfold dp;dsimp only;refine aa (aF ..) (aa (List.drop_append_of_le_length hi ..) ?_)
 apply List.map_congr_left
 intro z _;unfold oV;refine aa (List.find?_append ..) ?_
 cases List.find? (fun e=>e.x==z) (w.tr.drop i) with
 | some e=>rfl
 | none =>
  by_cases hz:x=z
  ·subst hz;simp only [List.find?_cons_of_pos,beq_self_eq_true,Option.none_or];exact aa (oJ hx ..) rfl
  ·rw [List.find?_cons_of_neg (by simpa using hz)];show (w.doms.set x m').getD z 0=w.doms.getD z 0;exact aa (aQ ..) (aa (ae hz ..) (aa (aH (aQ ..)) rfl))
theorem wj {A:List cI}{w:b8}{l:cR}{x m:Nat}{ls:List cR}(W:Ws w) (hf:w.failed=false) (hl:l.x=((x:Nat):Int)) (hk:0<=l.k/\l.k<8) (hx:w.doms[x]?=some m) (hls:ls.length<=900) (hH:∀ r∈ls,eE w.doms r) (hF:d7 A ls l) :
  Out A w (eF w.doms l) (iT w l x m (some ls) (-1)).1 (iT w l x m (some ls) (-1)).2:=by
 have hm:=W.get hx;have F:=fz (x:=l.x) (s:=l.s) hk hm.2;have hxn:l.x.toNat=x:=by refine aa (hl ..) ?_;rfl
 have R:Gd A w w:=Gd.refl;unfold iT;by_cases h0:e9 l.s l.k m=0
 ·refine aa (if_pos h0 ..) ?_;have hb:bk m=[]\/∀ v∈bk m,mT l.s l.k v=false:=by
   refine .inr fun v hv=>?_;have:(bk m).filter (mT l.s l.k)=[]:=by refine aa (aH (F.2.2 ..)) (aa (h0 ..) ?_);rfl
   have:=List.filter_eq_nil_iff.mp this v hv;simpa using this
  refine ⟨⟨R.tr,R.good,R.ahead,R.keep,R.len,R.sub,R.xs,R.wt,R.same⟩,⟨⟨W.kM,W.kN,W.ne⟩,W.len,W.dom,W.tr,W.mks,W.q,W.old⟩,rfl,fun ζ=>⟨⟨?_,?_,?_⟩,?_⟩,fun h=>nomatch h⟩
  ·show (ls++[ye l]).length<=1000;refine aa (ai ..) (aa (aE ..) ?_);exact Io hls
  ·intro r hr;rcases aN.mp hr with hr | hr
   ·exact hH r hr
   ·cases an.mp hr
    refine ⟨x,m,Ak.trans hl,hx,fun v hv=>?_⟩;rcases hb with hb | hb
    ·rw [hb] at hv;cases hv
    ·refine aa (tn ..) (aa (hb v hv ..) ?_);rfl
  ·intro a ha;by_cases hall:∀ r∈ls,fC r a=true
   ·refine ⟨ye l,List.mem_append_right _ (.head _),?_⟩;have:=hF a ha hall;unfold fC at this ⊢;refine aa (tn ..) (aa (Ak ..) (aa (this ..) ?_));rfl
   ·refine be (Classical.not_forall.mp hall) fun r hr=>?_;refine bl (Classical.not_imp.mp hr) fun hr1 hr2=>?_;exact ⟨r,aT _ hr1,by simpa using hr2⟩
  ·intro hn;have:=hn m (by exact aa (hxn ..) (hx));exact L8 hm h0 this
 ·refine aa (if_neg h0 ..) ?_;by_cases h1:e9 l.s l.k m=m
  ·refine aa (if_pos h1 ..) ?_;refine ⟨R,W,hf,nofun,fun ζ=>.inl ⟨rfl,fun m' h'=>?_⟩⟩;rw [hxn,hx] at h';refine bp h' ?_;exact h1
  ·refine aa (if_neg h1 ..) ?_;have lt:=xF hk hm.2 h1;have ws:=qV (m':=e9 l.s l.k m) hx;have ht:(w.tr++[(⟨x,m,l,some ls, -1⟩:m8)]).length=w.tr.length+1:=by refine aa (ai ..) ?_;rfl
   have hp:0<e9 l.s l.k m:=Nat.pos_of_ne_zero h0;have hsub:∀ (y m':Nat),(w.doms.set x (e9 l.s l.k m))[y]?=some m'->∃ m0,w.doms[y]?=some m0/\∀ v∈bk m',v∈bk m0:=by
    intro y m' h;by_cases hy:x=y
    ·subst hy;rw [List.getElem?_set_self (bj hx)] at h;refine bp h ?_;exact ⟨m,hx,fun v hv=>by rw [F.2.2] at hv;exact (aV.mp hv).1⟩
    ·rw [ae hy] at h;exact ⟨m',h,fun ζ h=>h⟩
   have T:=W.tr;have Q:=W.q;have L:=W.len;refine ⟨⟨⟨_,rfl⟩,fun i e hi he=>?_,fun i hi=>il hx hi,fun a ha hw=>?_,aF,hsub,fun e he=>?_,by dsimp only;refine aa (ht ..) ?_;exact L7 lt ws,rfl,rfl,rfl,rfl⟩,⟨⟨W.kM,W.kN,W.ne⟩,by dsimp only;refine aa (aF ..) ?_;exact L,fun m' h=>?_,by dsimp only;refine aa (ht ..) ?_;exact BI lt ws T,W.mks,by dsimp only;exact BI lt ws Q,fun e he=>?_⟩,hf,nofun,fun ζ=>.inr ⟨by dsimp only;refine aa (ht ..) ?_;exact Id,fun hn=>h1 (hn m (by exact aa (hxn ..) (hx)))⟩⟩
   ·have hi':=bj he;dsimp only at he hi';rw [ht] at hi';have:i=w.tr.length:=L4 hi hi';subst this;rw [List.getElem?_append_right (aU _),Nat.sub_self] at he;refine bp he ?_;refine aa (il hx (aU _) ..) (aa (me ..) ?_);exact ⟨ls,rfl,hls,hl,hH,hF⟩
   ·intro y m' h;dsimp only at h;by_cases hy:x=y
    ·subst hy;rw [List.getElem?_set_self (bj hx)] at h;refine bp h ?_;rw [F.2.2,aV];refine ⟨hw x m hx,?_⟩;have:=hF a ha fun r hr=>?_
     ·unfold fC at this;rw [hxn] at this;exact this
     ·refine bG (hH r hr) fun z mz e1 e2 e3=>?_;unfold fC;rw [e1];exact e3 _ (hw z mz e2)
    ·rw [ae hy] at h;exact hw y m' h
   ·rcases aN.mp he with he | he
    ·exact .inl he
    ·cases an.mp he
     exact .inr (bj hx)
   ·rcases List.mem_or_eq_of_mem_set h with h | rfl
    ·exact W.dom m' h
    ·exact ⟨hp,F.2.1⟩
   ·rcases aN.mp he with he | he
    ·have:=W.old e he;exact ⟨this.1,by dsimp only;refine aa (aF ..) ?_;exact this.2⟩
    ·cases an.mp he
     exact ⟨hm,by dsimp only;refine aa (aF ..) ?_;exact bj hx⟩
set_option genInjectivity false in
structure Cs where
 taken:List Nat
 value:Int
 n:Nat
noncomputable def cv (d:List Nat) (x:Nat):Nat:=d.getD x 0
noncomputable def nl (x:Nat) (s:Sg) (k:Int):cR:=⟨((x:Nat):Int),s,k⟩
noncomputable def eK (C:Cs) (d:List Nat) (x:Nat):Bool:=fx (cv d x)&&decide (lo (cv d x)=C.value)
noncomputable def cn (C:Cs) (d:List Nat) (x:Nat):Bool:=!decide (C.value∈bk (cv d x))
noncomputable def de (C:Cs) (d:List Nat):List Nat:=C.taken.filter (eK C d)
noncomputable def dd (C:Cs) (d:List Nat):List Nat:=C.taken.filter (cn C d)
noncomputable def d4 (C:Cs) (d:List Nat):List Nat:=C.taken.filter fun x=>!decide (x∈de C d)&&!decide (x∈dd C d)
noncomputable def dh (C:Cs) (d:List Nat):Int:=(C.taken.length:Int) - (dd C d).length
noncomputable def gh (C:Cs) (d:List Nat):List cR:=(de C d).map fun x=>nl x .eq C.value
noncomputable def above (C:Cs) (d:List Nat):List cR:=(dd C d).map fun x=>nl x .ne C.value
noncomputable def dH (C:Cs) (d:List Nat):Prop:=eF d (nl C.n .ge (de C d).length)/\eF d (nl C.n .le (dh C d)) /\
 (if hi (cv d C.n)=(de C d).length then ∀ x∈d4 C d,eF d (nl x .ne C.value)
  else if lo (cv d C.n)=dh C d then ∀ x∈d4 C d,eF d (nl x .eq C.value) else True)
noncomputable def oW (C:Cs) (a:cI):Nat:=C.taken.countP fun x=>decide (a.getD x 0=C.value)
noncomputable def d6 (C:Cs) (a:cI):Prop:=(oW C a:Int)=a.getD C.n 0
theorem j5 {α:Type}{p q:α->Bool}:∀ {l:List α}{x:α},(∀ y∈l,p y=true->q y=true)->x∈l->q x=true->p x=false->l.countP p<l.countP q
 | a::l,x,h,hx,h1,h2=>by
  have hl:∀ y∈l,p y=true->q y=true:=fun y hy=>h y (.tail _ hy);have hm:=List.countP_mono_left hl;refine aa (List.countP_cons ..) (aa (List.countP_cons ..) ?_)
  cases hx with
  | head=>refine aa (h1 ..) (aa (h2 ..) ?_);simp;exact L0 hm
  | tail _ hx =>
   have:=j5 hl hx h1 h2;have:p a=true->q a=true:=h a (.head _)
   induction hp:p a using Oz with
   | false=>simp;exact LY ‹_›
   | true=>refine aa (this hp ..) ?_;simp;exact HR ‹_›
theorem dR {x:Nat}{s:Sg}{k:Int}{a:cI}:fC (nl x s k) a=mT s k (a.getD x 0):=rfl
section
variable {C:Cs}{A:List cI}{d:List Nat}(hA:∀ a∈A,d6 C a)
include hA
theorem xk:d7 A (gh C d) (nl C.n .ge (de C d).length):=by
 intro a ha h;have hm:=hA a ha;unfold d6 at hm;refine aa (dR ..) (aa (aH (hm ..)) ?_);refine aA (Int.ofNat_le.mpr ?_);unfold de;refine aa (aH (List.countP_eq_length_filter ..)) ?_;refine List.countP_mono_left fun x hx hp=>?_;have:=h (nl x .eq C.value) (aX.mpr ⟨x,aV.mpr ⟨hx,hp⟩,rfl⟩);exact this
omit hA in
theorem rC:(C.taken.countP fun x=>!cn C d x:Int)=dh C d:=by
 unfold dh dd;refine aa (aH (List.countP_eq_length_filter ..)) ?_;have:=List.length_eq_countP_add_countP (cn C d) (l:=C.taken);have e:(C.taken.countP fun x=>!cn C d x)=C.taken.countP (fun a=>decide ¬cn C d a=true):=by congr 1;funext a;cases cn C d a<;>rfl
 refine aa (e ..) ?_;exact LX this
omit hA in
theorem n4 {a:cI}(h:∀ r∈above C d,fC r a=true):∀ x∈C.taken,decide (a.getD x 0=C.value)=true->(!cn C d x)=true:=by
 intro x hx hv
 induction hb:cn C d x using Oz with
 | false=>rfl
 | true =>
  have:=h (nl x .ne C.value) (aX.mpr ⟨x,aV.mpr ⟨hx,hb⟩,rfl⟩);have:(!decide (a.getD x 0=C.value))=true:=this;rw [hv] at this;exact aM this
theorem xl:d7 A (above C d) (nl C.n .le (dh C d)):=by
 intro a ha h;have hm:=hA a ha;unfold d6 at hm;refine aa (dR ..) (aa (aH (hm ..)) (aa (aH (rC ..)) ?_));exact aA (Int.ofNat_le.mpr (List.countP_mono_left (n4 h)))
theorem MF {x:Nat}(hx:x∈d4 C d):d7 A (gh C d++[nl C.n .le (de C d).length]) (nl x .ne C.value):=by
 intro a ha h;have hm:=hA a ha;unfold d6 at hm;have h1:=h (nl C.n .le (de C d).length) (by simp);rw [dR,← hm] at h1;have h1:=Int.ofNat_le.mp (ao h1);refine bl (aV.mp hx) fun hx1 hx2=>?_;refine aa (dR ..) ?_;show (!decide (a.getD x 0=C.value))=true
 induction hv:decide (a.getD x 0=C.value) using Oz with
 | false=>rfl
 | true =>
  exfalso
  have hp:eK C d x=false:=by
   induction hp:eK C d x using Oz with
   | false=>rfl
   | true =>
    have:x∈de C d:=aV.mpr ⟨hx1,hp⟩;rw [aA this] at hx2;exact aM hx2
  have:=j5 (p:=eK C d) (q:=fun x=>decide (a.getD x 0=C.value)) (fun y hy hp=>h (nl y .eq C.value) (aT _ (aX.mpr ⟨y,aV.mpr ⟨hy,hp⟩,rfl⟩))) hx1 hv hp;unfold de at h1;rw [← List.countP_eq_length_filter] at h1;exact Nat.not_lt_of_le h1 this
theorem MG {x:Nat}(hx:x∈d4 C d):d7 A (above C d++[nl C.n .ge (dh C d)]) (nl x .eq C.value):=by
 intro a ha h;have hm:=hA a ha;unfold d6 at hm;have h1:=h (nl C.n .ge (dh C d)) (by simp);rw [dR,← hm,← rC] at h1;have h1:=Int.ofNat_le.mp (ao h1);refine bl (aV.mp hx) fun hx1 hx2=>?_;refine aa (dR ..) ?_;show decide (a.getD x 0=C.value)=true
 induction hv:decide (a.getD x 0=C.value) using Oz with
 | true=>rfl
 | false =>
  exfalso
  have hp:(!cn C d x)=true:=by
   induction hp:cn C d x using Oz with
   | false=>rfl
   | true =>
    have:x∈dd C d:=aV.mpr ⟨hx1,hp⟩;rw [aA this,Bool.not_true,Bool.and_false] at hx2;exact aM hx2
  have:=j5 (p:=fun x=>decide (a.getD x 0=C.value)) (q:=fun x=>!cn C d x) (n4 fun r hr=>h r (aT _ hr)) hx1 hp hv;exact Nat.not_lt_of_le h1 this
end
theorem Ends.mono {n:Nat}{f:Addr}{vs:List V}{Z:ag}{P P':V->ag->Prop}(h:Ends n f vs Z P) (k:∀ v Z',P v Z'->P' v Z'):Ends n f vs Z P':=let ⟨v,Z',e,p⟩:=h;⟨v,Z',e,k v Z' p⟩
theorem eE.at {d:List Nat}{x m:Nat}{s:Sg}{k:Int}(h:d[x]?=some m) (h2:∀ v∈bk m,mT s k v=true):eE d (nl x s k):=⟨x,m,rfl,h,h2⟩
theorem Gd.hold {A:List cI}{w w':b8}{r:cR}(h:Gd A w w') (hr:eE w.doms r):eE w'.doms r:=hr.mono h.sub h.len
theorem bU {d:List Nat}{x:Nat}(h:x<d.length):d[x]?=some (cv d x):=by
 unfold cv;refine aa (aQ ..) (aa (au h ..) ?_);rfl
theorem dK {n:Nat}{Z:ag}{w:b8}{A:List cI}{x:Nat}{s:Sg}{k:Int}{u:V}{ls:List cR}(H:SH w Z) (W:Ws w) (hf:w.failed=false) (hu:bO Z u=some (ls.map bn)) (hk:0<=k/\k<8) (hx:x<w.doms.length) (hls:ls.length<=900) (hH:∀ r∈ls,eE w.doms r) (hF:d7 A ls (nl x s k)) :
  Ends (n+6) 232 [.own 2,bn (nl x s k),u] Z (fun v Z'=>∃ ok w',v=.bool ok/\SH w' Z'/\Fr w Z Z'/\Out A w (eF w.doms (nl x s k)) ok w') :=
 (ua H W hu rfl hk (bU hx) hls).mono fun v Z' h=>⟨_,_,h.1,h.2.1,h.2.2,wj W hf rfl hk (bU hx) hls hH hF⟩
noncomputable def yg (C:Cs):List (Str×V):=[(T "number",.int (-1)),(T "scope",.tup ((C.taken++[C.n]).map aO)),(T "strength",.str (T "values")),(T "taken",.tup (C.taken.map aO)),(T "value",.int C.value),(T "n",aO C.n)]
structure AC (C:Cs) (Z:ag):Prop where
 a:Z[10]?=some (.attrs (yg C))
 i:Z[11]?=some (.inst 375 10)
theorem AC.fr {C:Cs}{w:b8}{Z Z':ag}(h:AC C Z) (W:Wk w) (f:Fr w Z Z'):AC C Z':=by
 have hM:=W.kM.ne;have hN:=W.kN.ne;exact ⟨(f.at' 10 (by decide) (by decide) (by decide) (by decide) (za hM) (za hN)).trans h.a,(f.at' 11 (by decide) (by decide) (by decide) (by decide) (y9 hM) (y9 hN)).trans h.i⟩
structure i7 (C:Cs) (w:b8):Prop where
 len:C.taken.length<=4
 x:∀ x∈C.taken,x<w.doms.length
 n:C.n<w.doms.length
 v:0<=C.value/\C.value<8
theorem bV {α β:Type}{p:α->Bool}{f:α->β}:∀ l:List α,(l.flatMap fun x=>if p x then [f x] else [])=(l.filter p).map f
 | []=>rfl
 | a::l=>by
  refine aa (List.flatMap_cons ..) (aa (bV l ..) (aa (List.filter_cons ..) ?_))
  cases p a<;>rfl
theorem wy (x y:Nat) (h:aO x=aO y):x=y:=by injection h with h;exact Int.ofNat.inj h
theorem pV {x:Nat}{l:List Nat}:aO x∈l.map aO↔x∈l:=by
 rw [aX];exact ⟨fun ⟨y,hy,e⟩=>wy _ _ e▸hy,fun h=>⟨x,h,rfl⟩⟩
section
variable {n:Nat}{Z:ag}{w:b8}{C:Cs}{ρ:aL}{N:Nat}{p p' p2 p3:Pos}
theorem gB {x:Str}{v:V}{o:Expr}(G:AC C Z) (h:ev (bD n) N ρ Z o=some (.own 11,Z)) (h3:iX 375 x=true) (h4:lk x (yg C)=some v):ev (bD n) (N+1) ρ Z (.Attribute o x p)=some (v,Z):=sg h G.i G.a h3 h4
theorem zJ {m:Str}{f:Addr}{as:List Expr}{vs:List V}{Z2 Z':ag}{o:Expr}{v:V}(G:AC C Z) (h:ev (bD n) N ρ Z o=some (.own 11,Z)) (h3:lk m (yg C)=none) (h4:rD 375 m=some f) (h5:evs (bD n) N ρ Z as=some (vs,Z2)) (h6:cV n f (.own 11::vs) Z2=some (v,Z')) :
  ev (bD n) (N+1) ρ Z (.Call (.Attribute o m p) as [] p')=some (v,Z'):=rY h G.i G.a h3 h4 h5 h6
end
noncomputable def nt (C:Cs) (d:List Nat) (k:Nat):aL:=([(T "self",V.own 11),(T "store",.own 2),(T "held",.lst ((de C d).map aO)),(T "barred",.lst ((dd C d).map aO)),(T "opened",.lst ((d4 C d).map aO)),(T "below",.lst ((gh C d).map bn)),(T "above",.lst ((above C d).map bn)),(T "most",.int (dh C d))]:aL).take k
theorem cU {α:Type}{p:α->Bool}{l:List α}{k:Nat}(h:l.length<=k):(l.filter p).length<=k:=af (List.length_filter_le _ _) h
section
variable {n:Nat}{Z:ag}{w:b8}{C:Cs}{A:List cI}(H:SH w Z) (W:Ws w) (G:AC C Z) (O:i7 C w) (hf:w.failed=false) (hA:∀ a∈A,d6 C a)
include H W G O
theorem yF:ev (bD (n+3)) 198 (nt C w.doms 2) Z (match (bm 24 2)[0]? with | some (Stmt.Assign _ e _)=>e | _=>default)=some (.lst ((de C w.doms).map aO),Z):=by
 have hl:(C.taken.map aO).length<=lim:=aI (by have:=O.len;exact jJ this);refine (cN (enc:=aO) (as:=C.taken) (g:=fun x=>if eK C w.doms x then [aO x] else []) (gB G rfl rfl rfl) (cj hl) (fun x hx=>ce (d:=eK C w.doms x) rfl (fG (fP (d:=fx (cv w.doms x)) (d':=eK C w.doms x) (dO H rfl rfl rfl (am rfl) (lm H W (bU (O.x x hx)))) (fun h=>?_) (fun h=>⟨rfl,by unfold eK;refine aa (h ..) ?_;rfl⟩) |>.trans ?_)) fun ζ=>rfl) rfl).trans (by refine aa (bV ..) ?_;rfl)
 ·refine (bq (dO H rfl rfl rfl (am rfl) (pD H W (bU (O.x x hx)))) (gB G rfl rfl rfl) dG).trans ?_;unfold eK;refine aa (h ..) ?_;rfl
 ·unfold eK;cases fx (cv w.doms x)<;>rfl
theorem ui:ev (bD (n+4)) 197 (nt C w.doms 3) Z (match (bm 24 2)[1]? with | some (Stmt.Assign _ e _)=>e | _=>default)=some (.lst ((dd C w.doms).map aO),Z):=by
 have hl:(C.taken.map aO).length<=lim:=aI (by have:=O.len;exact jJ this);exact (cN (enc:=aO) (as:=C.taken) (g:=fun x=>if cn C w.doms x then [aO x] else []) (gB G rfl rfl rfl) (cj hl) (fun x hx=>ce (d:=cn C w.doms x) rfl (fG (di (dO H rfl rfl rfl (ap rfl (am (gB G rfl rfl rfl))) (yw H W O.v (bU (O.x x hx)))))) fun ζ=>rfl) rfl).trans (by refine aa (bV ..) ?_;rfl)
end
theorem sY (x:Nat):ok 16 (aO x):=⟨rfl,rfl⟩
theorem nN (l:List Nat):cw 16 (l.map aO)=true:=cH (fun ζ=>rfl) l
theorem pT (l:List Nat):vb (l.map aO)=true:=eR (fun ζ=>rfl) l
theorem e6 {α β:Type}{f:α->β}:∀ l:List α,(l.flatMap fun x=>if true then [f x] else [])=l.map f
 | []=>rfl
 | a::l=>by refine aa (List.flatMap_cons ..) (aa (e6 l ..) ?_);rfl
theorem iQ {A:List cI}{w w':b8}{S:Prop}{ok:Bool}(h:Out A w S ok w'):w'.doms.length=w.doms.length:=h.gd.len
theorem Out.fr {A:List cI}{w w':b8}{S:Prop}{ok:Bool}{Z Z1 Z2:ag}(h:Out A w S ok w') (f:Fr w Z Z1) (g:Fr w' Z1 Z2):Fr w Z Z2:=f.trans g h.gd.same.2.2.1 h.gd.same.2.2.2
section
variable {n:Nat}{Z:ag}{w:b8}{C:Cs}{A:List cI}
theorem jf {t:Expr}{b:List Stmt}{xs:List Nat}{s:Sg}{k:Int}{ls:List cR}{N:Nat}{Q:Fl->aL->ag->Prop}(E:Option Nat->aL)
  (hb:∀ o x,b6 t (aO x) (E o)=some (E (some x)))
  (hcall:∀ x Z1 Z2 d,cV (n+6) 232 [.own 2,bn (nl x s k),.lst (ls.map bn)] Z1=some (.bool d,Z2)->(∃ w',SH w' Z1)->Fr w Z Z1->∀ Q',(d=true->Q' .next (E (some x)) Z2)->(d=false->Q' (.ret (.bool false)) (E (some x)) Z2)->Xs (bD (n+6)) N (E (some x)) Z1 b Q')
  (H:SH w Z) (W:Ws w) (hf:w.failed=false) (hk:0<=k/\k<8) (hx:∀ x∈xs,x<w.doms.length) (hls:ls.length<=900) (hH:∀ r∈ls,eE w.doms r) (hF:∀ x∈xs,d7 A ls (nl x s k))
  (q1:∀ Z' w' o,SH w' Z'->Fr w Z Z'->Out A w (∀ x∈xs,eF w.doms (nl x s k)) true w'->Q .next (E o) Z')
  (q2:∀ Z' w' o,SH w' Z'->Fr w Z Z'->Out A w (∀ x∈xs,eF w.doms (nl x s k)) false w'->Q (.ret (.bool false)) (E o) Z') :
  Lp (gF (bD (n+6)) N t b) (xs.map aO) (E none) Z Q:=by
 refine cm (enc:=aO) (fun r ρ Z'=>∃ o w' done,ρ=E o/\SH w' Z'/\Fr w Z Z'/\Out A w (∀ x∈done,eF w.doms (nl x s k)) true w'/\done++r=xs) ⟨none,w,[],rfl,H,Fr.refl,⟨Gd.refl,W,hf,nofun,fun ζ=>.inl ⟨rfl,fun ζ h=>nomatch h⟩⟩,rfl⟩ ?_ ?_
 ·intro ρ;intro Z';intro Q0;refine fX (Q0) fun o w' done Q1 H' F' U e=>?_;clear Q0;subst Q1;rw [List.append_nil] at e;subst e;exact q1 Z' w' o H' F' U
 ·intro x;intro r;intro ρ;intro Z';intro Q2;refine fX (Q2) fun o w' done Q3 H' F' U e=>?_;clear Q2;subst Q3;have hxm:x∈xs:=by refine aa (aH (e ..)) ?_;simp
  refine bQ (dK (n:=n) (x:=x) (s:=s) (u:=.lst (ls.map bn)) H' U.ws U.fl rfl hk (by exact aa (iQ U ..) (hx x hxm)) hls (fun r hr=>U.gd.hold (hH r hr)) (hF x hxm)) fun v Z2 e1 Q4=>?_;refine bK (Q4) fun okk wa Q5 H2 F2 U2=>?_;clear Q4;subst Q5;refine ⟨_,hb o x,hcall x Z' Z2 okk e1 ⟨w',H'⟩ F' _ (fun h=>?_) fun h=>?_⟩
  ·subst h;have:=U.seq U2 (S'':=eF w.doms (nl x s k)) (fun e=>by exact aa (e ..) (by rfl))
   exact ⟨some x,wa,done++[x],rfl,H2,U.fr F' F2,this.iff ⟨fun h y hy=>by
    rcases aN.mp hy with hy | hy
    ·exact h.1 y hy
    ·refine aa (an.mp hy ..) ?_;exact h.2,fun h=>⟨fun y hy=>h y (aT _ hy),h x (by simp)⟩⟩,by refine aa (List.append_assoc ..) ?_;exact e⟩
  ·subst h;have:=U.seq U2 (S'':=eF w.doms (nl x s k)) (fun e=>by exact aa (e ..) (by rfl));exact q2 Z2 wa (some x) H2 (U.fr F' F2) ⟨this.gd,this.ws,this.fl,fun h=>⟨(this.bad h).1,fun hh=>(this.bad h).2 ⟨fun y hy=>hh y (by exact aa (aH (e ..)) (aT _ hy)),hh x hxm⟩⟩,fun h=>nomatch h⟩
end
section
variable {n:Nat}{Z:ag}{w:b8}{C:Cs}{A:List cI}(H:SH w Z) (W:Ws w) (G:AC C Z) (O:i7 C w) (hf:w.failed=false) (hA:∀ a∈A,d6 C a)
include H W G O
noncomputable def M1 (i:Nat):Expr:=match (bm 24 2)[i]? with | some (Stmt.Assign _ e _)=>e | _=>default
theorem uh:ev (bD (n+4)) 196 (nt C w.doms 4) Z (M1 2)=some (.lst ((d4 C w.doms).map aO),Z):=by
 have hl:(C.taken.map aO).length<=lim:=aI (by have:=O.len;exact jJ this);refine (cN (enc:=aO) (as:=C.taken) (g:=fun x=>if (!decide (x∈de C w.doms)&&!decide (x∈dd C w.doms)) then [aO x] else []) (gB G rfl rfl rfl) (cj hl) (fun x hx=>ce (d:=!decide (x∈de C w.doms)&&!decide (x∈dd C w.doms)) rfl (fG ((fP (d:=!decide (x∈de C w.doms)) (d':=!decide (x∈de C w.doms)&&!decide (x∈dd C w.doms)) (bq (v:=aO x) rfl rfl (nS (d:=decide (x∈de C w.doms)) rfl (sY x) (nN _) (pT _) (by rw [decide_eq_true_iff,pV]))) (fun h=>?_) (fun h=>⟨rfl,by refine aa (h ..) ?_;rfl⟩)).trans ?_)) fun ζ=>rfl) rfl).trans (by refine aa (bV ..) ?_;rfl)
 ·refine aa (h ..) (aa (Bool.true_and ..) ?_);exact bq (v:=aO x) rfl rfl (nS (d:=decide (x∈dd C w.doms)) rfl (sY x) (nN _) (pT _) (by rw [decide_eq_true_iff,pV]))
 ·cases (!decide (x∈de C w.doms))<;>rfl
theorem vM:ev (bD (n+4)) 195 (nt C w.doms 5) Z (M1 3)=some (.lst ((gh C w.doms).map bn),Z):=by
 have hl:((de C w.doms).map aO).length<=lim:=aI (af (cU O.len) (by decide));refine (cN (enc:=aO) (as:=de C w.doms) (g:=fun x=>if true then [bn (nl x .eq C.value)] else []) rfl (bB hl) (fun x hx=>ce (d:=true) rfl kD fun ζ=>cf (ap rfl (ap rfl (am (gB G rfl rfl rfl))))) rfl).trans (by (refine aa (e6 ..) ?_;rw [gh];refine aa (List.map_map ..) ?_);rfl)
theorem vN:ev (bD (n+4)) 194 (nt C w.doms 6) Z (M1 4)=some (.lst ((above C w.doms).map bn),Z):=by
 have hl:((dd C w.doms).map aO).length<=lim:=aI (af (cU O.len) (by decide));refine (cN (enc:=aO) (as:=dd C w.doms) (g:=fun x=>if true then [bn (nl x .ne C.value)] else []) rfl (bB hl) (fun x hx=>ce (d:=true) rfl kD fun ζ=>cf (ap rfl (ap rfl (am (gB G rfl rfl rfl))))) rfl).trans (by (refine aa (e6 ..) ?_;rw [above];refine aa (List.map_map ..) ?_);rfl)
theorem yE:ev (bD (n+4)) 193 (nt C w.doms 7) Z (M1 5)=some (.int (dh C w.doms),Z):=by
 have hl:(C.taken.map aO).length<=lim:=aI (by have:=O.len;exact jJ this);have hb:((dd C w.doms).map aO).length<=lim:=aI (af (cU O.len) (by decide));refine cF (cW (i:= "len") rfl (am (gB G rfl rfl rfl)) (cG rfl hl)) (cW (i:= "len") rfl (am rfl) (cG rfl hb)) ?_;refine aa (ah ..) (aa (ah ..) ?_);rfl
end
theorem xn:∀ m:Fin 32,m.val≠0->fx m=true->∀ v∈bk m,v=lo m:=by decide +kernel
theorem Ws.m (W:Ws w) {x:Nat}(h:x<w.doms.length):0<cv w.doms x/\cv w.doms x<32:=W.get (bU h)
theorem Out.refl {A:List cI}{w:b8}(W:Ws w) (hf:w.failed=false) {S:Prop}(h:S):Out A w S true w:=⟨Gd.refl,W,hf,nofun,fun ζ=>.inl ⟨rfl,h⟩⟩
theorem nB {m:Nat}(h:0<m/\m<32):∀ v∈bk m,lo m<=v/\v<=hi m:=(fO ⟨m,h.2⟩ (bg.mp h.1)).2.2.2.2
theorem fI {c:d8}{n:Nat}{ρ:aL}{Z Z1:ag}{es:List Expr}{p:Pos}{vs:List V}(h1:evs c n ρ Z es=some (vs,Z1)) (ho:c.owned p.line=false):ev c (n+1) ρ Z (.List es p)=some (.lst vs,Z1):=by
 show (evs c n ρ Z es).map _=_;refine aa (h1 ..) ?_;show some (if c.owned p.line then _ else _)=_;refine aa (ho ..) ?_;rfl
theorem mE {α:Type}{f:α->V}{a:List α}{b:List α}(h:a.length<=1000) (h2:b.length<=1000):ft .Add (.lst (a.map f)) (.lst (b.map f))=some (.lst ((a++b).map f)):=by
 refine aa (aK ..) ?_;exact if_pos ⟨aI h,aI h2⟩
noncomputable def m6 (A:List cI) (w:b8) (Z:ag) (S:Prop) (v:V) (Z':ag):Prop:=∃ ok w',v=.bool ok/\SH w' Z'/\Fr w Z Z'/\Out A w S ok w'
noncomputable def iu (A:List cI) (w:b8) (Z:ag) (S:Prop) (fl:Fl) (_:aL) (Z':ag):Prop:=dI Z'/\Z'.length=Z.length/\cO Z.length (jK fl)=true/\m6 A w Z S (jK fl) Z'
theorem iu.mk' {A:List cI}{w w':b8}{Z Z':ag}{S:Prop}{ok:Bool}(H:SH w' Z') (F:Fr w Z Z') (U:Out A w S ok w'):iu A w Z S (.ret (.bool ok)) [] Z':=⟨H.ok,F.len,rfl,ok,w',rfl,H,F,U⟩
section
variable {n:Nat}{Z:ag}{w:b8}{C:Cs}{A:List cI}(H:SH w Z) (W:Ws w) (G:AC C Z) (O:i7 C w) (hf:w.failed=false) (hA:∀ a∈A,d6 C a)
include W O
theorem lW:∀ r∈gh C w.doms,eE w.doms r:=by
 intro r hr;refine aB (aX.mp hr) fun x hx Q0=>?_;subst Q0;refine bl (aV.mp hx) fun hx1 hx2=>?_;have hl:=O.x x hx1;have hm:=W.m hl;refine bl (ay.mp hx2) fun h1 h2=>?_;exact eE.at (bU hl) fun v hv=>aA ((xn ⟨_,hm.2⟩ (bg.mp hm.1) h1 v hv).trans (ao h2))
theorem lX:∀ r∈above C w.doms,eE w.doms r:=by
 intro r hr;refine aB (aX.mp hr) fun x hx Q0=>?_;subst Q0;refine bl (aV.mp hx) fun hx1 hx2=>?_;have hl:=O.x x hx1;refine eE.at (bU hl) fun v hv=>?_;show (!decide (v=C.value))=true
 induction h:decide (v=C.value) using Oz with
 | false=>rfl
 | true =>
  rw [ao h] at hv;unfold cn at hx2;rw [aA hv] at hx2;exact aM hx2
include H G hf hA
theorem lg:Ends (n+7) 358 [.own 11,.own 2] Z (m6 A w Z (dH C w.doms)):=by
 show ∃ u Z',cL false Z (cB (bD (n+6)) 200 (nt C w.doms 2) Z (bm 24 2))=some (u,Z')/\_;have c1:(de C w.doms).length<=4:=cU O.len;have c2:(dd C w.doms).length<=C.taken.length:=List.length_filter_le _ _;have c2':(dd C w.doms).length<=4:=cU O.len;have c3:=O.len;have c4:(d4 C w.doms).length<=4:=cU O.len;have k1:(0:Int)<=(de C w.doms).length/\((de C w.doms).length:Int)<8:=zf c1;have k2:(0:Int)<=dh C w.doms/\dh C w.doms<8:=by unfold dh;exact Ao c2 c3
 have lb:(gh C w.doms).length<=800:=by unfold gh;refine aa (ah ..) ?_;exact Kl k1
 have la:(above C w.doms).length<=800:=by unfold above;refine aa (ah ..) ?_;exact Kk c2'
 refine bQ (dK (n:=n) (x:=C.n) (s:=.ge) (u:=.lst ((gh C w.doms).map bn)) H W hf rfl k1 O.n (EQ lb) (lW W O) (xk hA)) fun ζ Z1 e1 Q0=>?_;refine bK (Q0) fun ok1 wc Q1 H1 F1 U1=>?_;clear Q0;subst Q1;have hlen:((de C w.doms).map aO).length<=lim:=aI (Kj k1);have eh:∀ {N:Nat}{Z:ag}{p p2 p3:Pos},ev (bD (n+6)) (N+3) (nt C w.doms 8) Z (.Call (.Name (T "len") p) [.Name (T "held") p2] [] p3)=some (.int (de C w.doms).length,Z):=(cW (i:= "len") rfl (am rfl) (cG rfl hlen)).trans (aa (ah ..) (by rfl));refine gf (P:=m6 A w Z (dH C w.doms)) (show Xs _ _ _ _ _ (iu A w Z (dH C w.doms)) from ?_);refine bu rfl (yF H W G O) (ρ':=nt C w.doms 3) rfl (bu rfl (ui H W G O) (ρ':=nt C w.doms 4) rfl (bu rfl (uh H W G O) (ρ':=nt C w.doms 5) rfl (bu rfl (vM H W G O) (ρ':=nt C w.doms 6) rfl (bu rfl (vN H W G O) (ρ':=nt C w.doms 7) rfl (bu rfl (yE H W G O) (ρ':=nt C w.doms 8) rfl ?_)))));have s1:∀ {N:Nat}{p p2 p3 p4 p5 p6 p7 p8 p9 p10 p11:Pos}{z z2:Nat},ev (bD (n+6)) (N+10) (nt C w.doms 8) Z (.Call (.Attribute (.Name (T "store") p) (T "strike") p2) [.Tuple [.Attribute (.Name (T "self") p3) (T "n") p4,.Constant (.str (T ">=")) z p5,.Call (.Name (T "len") p6) [.Name (T "held") p7] [] p8] z2 p9,.Name (T "below") p10] [] p11)=some (.bool ok1,Z1):=by
  intros
  exact dO H rfl rfl rfl (ap (cf (ap (gB G rfl rfl rfl) (ap rfl (am eh)))) (am rfl)) e1
 induction ok1 using Oz with
 | false =>
  refine bW rfl (d:=true) (rX (d:=true) (d':=true) (di s1) nofun fun ζ=>⟨rfl,rfl⟩) (fun ζ=>bo rfl rfl (iu.mk' H1 F1 U1.fail)) nofun
 | true =>
  have G1:=G.fr W.toWk F1;refine bQ (dK (n:=n) (x:=C.n) (s:=.le) (u:=.lst ((above C w.doms).map bn)) H1 U1.ws U1.fl rfl k2 (by exact aa (iQ U1 ..) (O.n)) (EQ la) (fun r hr=>U1.gd.hold (lX W O r hr)) (xl hA)) fun ζ Z2 e2 Q2=>?_;refine bK (Q2) fun ok2 wa Q3 H2 F2 U2=>?_;clear Q2;subst Q3;have U12:=U1.seq U2 (S'':=eF w.doms (nl C.n .le (dh C w.doms))) (fun e=>by exact aa (e ..) (by rfl));have F12:=U1.fr F1 F2;have s2:∀ {N:Nat}{p p2 p3 p4 p5 p6 p9 p10 p11:Pos}{z z2:Nat},ev (bD (n+6)) (N+10) (nt C w.doms 8) Z1 (.Call (.Attribute (.Name (T "store") p) (T "strike") p2) [.Tuple [.Attribute (.Name (T "self") p3) (T "n") p4,.Constant (.str (T "<=")) z p5,.Name (T "most") p6] z2 p9,.Name (T "above") p10] [] p11)=some (.bool ok2,Z2):=by
   intros
   exact dO H1 rfl rfl rfl (ap (cf (ap (gB G1 rfl rfl rfl) (ap rfl (am rfl)))) (am rfl)) e2
  refine bW rfl (rX (d:=false) (d':=!ok2) (di s1) (fun ζ=>di s2) nofun) (fun h=>?_) fun h=>aY ?_
  ·induction ok2 using Oz with
   | true=>exact aM h
   | false=>exact bo rfl rfl (iu.mk' H2 F12 ⟨U12.gd,U12.ws,U12.fl,fun h=>⟨(U12.bad h).1,fun hh=>(U12.bad h).2 ⟨hh.1,hh.2.1⟩⟩,fun h=>nomatch h⟩)
  ·induction ok2 using Oz with
   | false=>exact cg h
   | true =>
    have G2:=G.fr W.toWk F12;have hn2:C.n<wa.doms.length:=by refine aa (iQ U12 ..) ?_;exact O.n
    have m2:=U12.ws.m hn2;have nn:∀ {N:Nat}{p p2:Pos},ev (bD (n+6)) (N+2) (nt C w.doms 8) Z2 (.Attribute (.Name (T "self") p) (T "n") p2)=some (aO C.n,Z2):=gB G2 rfl rfl rfl;have hop:∀ x∈d4 C w.doms,x<wa.doms.length:=fun x hx=>by refine aa (iQ U12 ..) ?_;exact O.x x (aV.mp hx).1
    have hcons:∀ {S':Prop}{ok:Bool}{we:b8},Out A wa S' ok we->(wa=w->(S'↔(if hi (cv w.doms C.n)=(de C w.doms).length then ∀ x∈d4 C w.doms,eF w.doms (nl x .ne C.value) else if lo (cv w.doms C.n)=dh C w.doms then ∀ x∈d4 C w.doms,eF w.doms (nl x .eq C.value) else True)))->Out A w (dH C w.doms) ok we:=fun U3 hS=>(U12.seq U3 hS).iff and_assoc;have eop:∀ {N:Nat}{p:Pos}{l:List (Str×V)}{Z:ag},ev (bD (n+6)) (N+1) (nt C w.doms 8++l) Z (.Name (T "opened") p)=some (.lst ((d4 C w.doms).map aO),Z):=fun {N p l Z}=>rfl;refine bW rfl (d:=decide (hi (cv wa.doms C.n)=(de C w.doms).length)) (bq (dO H2 rfl rfl rfl (am nn) (oh H2 U12.ws (bU hn2))) eh dG) (fun h=>?_) fun h=>?_
    ·have h:=ao h
     let E:Option Nat->aL:=fun o=>nt C w.doms 8++[(T "sign",.str (qT .ne)),(T "reasons",.lst ((gh C w.doms++[nl C.n .le (de C w.doms).length]).map bn))]++(match o with | none=>[] | some x=>[(T "x",aO x)])
     refine bu rfl (v:=.tup [.str (qT .ne),.lst ((gh C w.doms++[nl C.n .le (de C w.doms).length]).map bn)]) (cf (ap rfl (am (cF rfl (fI (am (cf (ap nn (ap rfl (am eh))))) rfl) (mE (f:=bn) (a:=gh C w.doms) (b:=[nl C.n .le (de C w.doms).length]) (EP lb) (by simp)))))) (fR rfl) (aY (dg rfl rfl rfl (bB (aI (jJ c4))) ?_));refine jf (n:=n) (A:=A) (s:=.ne) (k:=C.value) (ls:=gh C w.doms++[nl C.n .le (de C w.doms).length]) E (fun o x=>by exact bz o rfl fun ζ=>rfl) (fun x τ τ' d e ⟨_,Hτ⟩ Fτ Q' q1 q2=>?_) H2 U12.ws U12.fl O.v hop (by refine aa (ai ..) (aa (aE ..) ?_);exact EO lb) (fun r hr=>?_) (fun x hx=>MF hA hx) (fun τ w' o H' F' U=>?_) (fun τ w' o H' F' U=>?_)
     ·have Gτ:=G2.fr U12.ws.toWk Fτ;refine bW rfl (di (dO Hτ rfl rfl rfl (ap (cf (ap rfl (ap rfl (am (gB Gτ rfl rfl rfl))))) (am rfl)) e)) (fun h=>?_) fun h=>?_
      ·induction d using Oz with
       | true=>exact aM h
       | false=>exact bo rfl rfl (q2 rfl)
      ·induction d using Oz with
       | false=>exact cg h
       | true=>exact aY (aY (q1 rfl))
     ·rcases aN.mp hr with hr | hr
      ·exact U12.gd.hold (lW W O r hr)
      ·cases an.mp hr
       exact eE.at (bU hn2) fun v hv=>aA (h▸(nB m2 v hv).2)
     ·exact bo rfl (rfl) (iu.mk' H' (U12.fr F12 F') (hcons U fun e=>by subst e;exact aa (if_pos h ..) (by rfl)))
     ·exact iu.mk' H' (U12.fr F12 F') (hcons U fun e=>by subst e;exact aa (if_pos h ..) (by rfl))
    ·have h:=of_decide_eq_false h;refine bW rfl (d:=decide (lo (cv wa.doms C.n)=dh C w.doms)) (bq (dO H2 rfl rfl rfl (am nn) (rk H2 U12.ws (bU hn2))) rfl dG) (fun h2=>?_) fun h2=>?_
     ·have h2:=ao h2
      let E:Option Nat->aL:=fun o=>nt C w.doms 8++[(T "sign",.str (qT .eq)),(T "reasons",.lst ((above C w.doms++[nl C.n .ge (dh C w.doms)]).map bn))]++(match o with | none=>[] | some x=>[(T "x",aO x)])
      refine bu rfl (v:=.tup [.str (qT .eq),.lst ((above C w.doms++[nl C.n .ge (dh C w.doms)]).map bn)]) (cf (ap rfl (am (cF rfl (fI (am (cf (ap nn (ap rfl (am rfl))))) rfl) (mE (f:=bn) (a:=above C w.doms) (b:=[nl C.n .ge (dh C w.doms)]) (EP la) (by simp)))))) (fR rfl) (aY (aY (dg rfl rfl rfl (bB (aI (jJ c4))) ?_)));refine jf (n:=n) (A:=A) (s:=.eq) (k:=C.value) (ls:=above C w.doms++[nl C.n .ge (dh C w.doms)]) E (fun o x=>by exact bz o rfl fun ζ=>rfl) (fun x τ τ' d e ⟨_,Hτ⟩ Fτ Q' q1 q2=>?_) H2 U12.ws U12.fl O.v hop (by refine aa (ai ..) (aa (aE ..) ?_);exact EO la) (fun r hr=>?_) (fun x hx=>MG hA hx) (fun τ w' o H' F' U=>?_) (fun τ w' o H' F' U=>?_)
      ·have Gτ:=G2.fr U12.ws.toWk Fτ;refine bW rfl (di (dO Hτ rfl rfl rfl (ap (cf (ap rfl (ap rfl (am (gB Gτ rfl rfl rfl))))) (am rfl)) e)) (fun h=>?_) fun h=>?_
       ·induction d using Oz with
        | true=>exact aM h
        | false=>exact bo rfl rfl (q2 rfl)
       ·induction d using Oz with
        | false=>exact cg h
        | true=>exact aY (aY (q1 rfl))
      ·rcases aN.mp hr with hr | hr
       ·exact U12.gd.hold (lX W O r hr)
       ·cases an.mp hr
        exact eE.at (bU hn2) fun v hv=>aA (h2▸(nB m2 v hv).1)
      ·exact bo rfl (rfl) (iu.mk' H' (U12.fr F12 F') (hcons U fun e=>by subst e;exact aa (if_neg h ..) (aa (if_pos h2 ..) (by rfl))))
      ·exact iu.mk' H' (U12.fr F12 F') (hcons U fun e=>by subst e;exact aa (if_neg h ..) (aa (if_pos h2 ..) (by rfl)))
     ·have h2:=of_decide_eq_false h2;exact bo rfl rfl (iu.mk' H2 F12 (hcons (Out.refl U12.ws U12.fl trivial) fun e=>by subst e;exact aa (if_neg h ..) (aa (if_neg h2 ..) (by rfl))))
end
structure sF (A:List cI) (w:b8) (S:List Nat->Prop) (ok:Bool) (w':b8):Prop where
 gd:Gd A w w'
 ws:Ws w'
 fl:w'.failed=!ok
 bad:ok=false->pe A w'/\¬S w.doms
 good:ok=true->S w'.doms/\(S w.doms->w'=w)
noncomputable def yc (A:List cI) (w:b8) (Z:ag) (S:List Nat->Prop) (v:V) (Z':ag):Prop:=∃ ok w',v=.bool ok/\SH w' Z'/\Fr w Z Z'/\sF A w S ok w'
noncomputable def mJ (A:List cI) (w:b8) (Z:ag) (S:List Nat->Prop) (fl:Fl) (_:aL) (Z':ag):Prop:=dI Z'/\Z'.length=Z.length/\cO Z.length (jK fl)=true/\yc A w Z S (jK fl) Z'
theorem mJ.mk' {A:List cI}{w w':b8}{Z Z':ag}{S:List Nat->Prop}{ok:Bool}(H:SH w' Z') (F:Fr w Z Z') (U:sF A w S ok w'):mJ A w Z S (.ret (.bool ok)) [] Z':=⟨H.ok,F.len,rfl,ok,w',rfl,H,F,U⟩
theorem Gd.fr {A:List cI}{w w':b8}{Z Z1 Z2:ag}(h:Gd A w w') (f:Fr w Z Z1) (g:Fr w' Z1 Z2):Fr w Z Z2:=f.trans g h.same.2.2.1 h.same.2.2.2
theorem i7.gd {C:Cs}{A:List cI}{w w':b8}(O:i7 C w) (h:Gd A w w'):i7 C w':=⟨O.len,fun x hx=>h.len▸O.x x hx,h.len▸O.n,O.v⟩
noncomputable def Nd (m:Int):aL:=[(T "self",.own 11),(T "store",.own 2),(T "mark",.int m)]
noncomputable def Nc:Expr×List Stmt×Pos:=match (bm 24 1)[1]? with | some (Stmt.While t b _ p)=>(t,b,p) | _=>(default,[],default)
section
variable {n:Nat}{Z:ag}{w:b8}{C:Cs}{A:List cI}(H:SH w Z) (W:Ws w) (G:AC C Z) (O:i7 C w) (hf:w.failed=false) (hA:∀ a∈A,d6 C a)
theorem tO {m:Int}{N:Nat}(H:SH w Z) (W:Ws w):ev (bD n) (N+6) (Nd m) Z Nc.1=some (.bool (decide (m<w.tr.length)),Z) :=
 (bq rfl (cW (i:= "len") rfl (am (dX H rfl rfl rfl)) (cG (cD H.t) W.trl)) (zQ rfl)).trans (aa (ah ..) (by rfl))
include G O hA
theorem zN:∀ (k:Nat) (w':b8) (Z':ag) (m:Int) (N:Nat),wt w'.doms<=k->SH w' Z'->Fr w Z Z'->Gd A w w'->Ws w'->w'.failed=false->Wk w->(w'=w\/¬dH C w.doms)->m<w'.tr.length ->
    Wh (bD (n+7)) (N+k+20) (Nd m) Z' Nc.1 Nc.2.1 Nc.2.2 (fun fl ρ Z2=>(fl=.ret (.bool false)/\∃ wa,SH wa Z2/\Fr w Z Z2/\sF A w (dH C) false wa)\/(fl=.next/\∃ wa,SH wa Z2/\Fr w Z Z2/\sF A w (dH C) true wa)):=by
  intro k
  induction k with
  | zero | succ k ih =>
    all_goals
      intro w' Z' m N hk H W0 hg W hf hK hst hm;refine bQ (lg (n:=n) H W (G.fr hK W0) (O.gd hg) hf hA) fun ζ Z2 e Q0=>?_;refine bK (Q0) fun ok wa Q1 H2 F2 U=>?_;clear Q0;subst Q1;refine wh (d:=true) (aa (tO H W ..) (aa (aA hm ..) (by rfl))) (fun ζ=>?_) fun h=>nomatch h;refine bu rfl (v:=.int w'.tr.length) ((cW (i:= "len") rfl (am (dX H rfl rfl rfl)) (cG (cD H.t) W.trl)).trans (aa (ah ..) (by rfl))) (ρ':=Nd w'.tr.length) rfl ?_;refine bW rfl (di (zJ (G.fr hK W0) rfl rfl rfl (ap (v:=.own 2) rfl b0) e)) (fun h=>?_) fun h=>?_
      · induction ok using Oz with
        | true=>exact aM h
        | false =>
          refine bo rfl rfl (.inl ⟨rfl,wa,H2,hg.fr W0 F2,hg.trans U.gd,U.ws,U.fl,fun ζ=>⟨(U.bad rfl).1,?_⟩,fun h=>nomatch h⟩);rcases hst with rfl | h
          · exact (U.bad rfl).2
          · exact h
      · induction ok using Oz with
        | false=>exact cg h
        | true =>
          refine aY (aY ?_);rcases U.ok rfl with ⟨rfl,hs⟩ | ⟨hlt,hs⟩
          · refine wh (d:=false) (aa (tO H2 U.ws ..) (aa (decide_eq_false NG ..) (by rfl))) nofun fun ζ=>.inr ⟨rfl,wa,H2,hg.fr W0 F2,hg,U.ws,U.fl,nofun,fun ζ=>⟨hs,fun h=>?_⟩⟩
            rcases hst with rfl | h'
            · rfl
            · exact absurd h h'
          · have hw:=U.gd.wt
            first
            | (exfalso;exact EN hk hlt hw)
            | (refine ih wa Z2 _ N (EM hk hlt hw) H2 (hg.fr W0 F2) (hg.trans U.gd) U.ws U.fl hK (.inr ?_) (Ki hlt)
               rcases hst with rfl | h'
               · exact hs
               · exact h')
include H W hf
theorem DK:Ends (n+8) 353 [.own 11,.own 2] Z (yc A w Z (dH C)):=by
 show ∃ u Z',cL false Z (cB (bD (n+7)) 200 [(T "self",.own 11),(T "store",.own 2)] Z (bm 24 1))=some (u,Z')/\_;refine gf (P:=yc A w Z (dH C)) (show Xs _ _ _ _ _ (mJ A w Z (dH C)) from ?_);have hw:wt w.doms<=100:=by have:=W.tr;exact EL this
 refine bu rfl (v:=.int (-1)) rfl (ρ':=Nd (-1)) rfl (i8 rfl ?_);refine cp (zN (n:=n) (w:=w) (Z:=Z) G O hA 100 w Z (-1) 78 hw H Fr.refl Gd.refl W hf W.toWk (.inl rfl) Kh) fun fl ρ' Z' h1 h2=>?_;refine ⟨fl,ρ',Z',h1,?_⟩;rcases h2 with ⟨rfl,wa,H2,F2,U⟩ | ⟨rfl,wa,H2,F2,U⟩
 ·exact mJ.mk' H2 F2 U
 ·exact bo rfl rfl (mJ.mk' H2 F2 U)
end
theorem eL {Z l:ag}{i:Nat}:(Z++l)[Z.length+i]?=l[i]?:=by
 exact aa (List.getElem?_append_right (aP _ _) ..) (aa (Nat.add_sub_cancel_left ..) rfl)
theorem oi {Z l:ag}{i:Nat}{c:Cell}:(Z++l).set (Z.length+i) c=Z++l.set i c:=by
 exact aa (List.set_append_right _ _ (aP _ _) ..) (aa (Nat.add_sub_cancel_left ..) rfl)
theorem ez {Z l:ag}:(Z++l).length=Z.length+l.length:=ai
theorem fg {Z l:ag}{i:Nat}(h:i<Z.length):(Z++l)[i]?=Z[i]?:=ba h
theorem kK {w:b8}{Z:ag}(H:SH w Z):∀ {l:ag},dI (Z++l)->SH w (Z++l):=fun {l} ho =>
 have g:∀ {i:Nat}{c:Cell},Z[i]?=some c->(Z++l)[i]?=some c:=fun h=>(fg (bj h)).trans h
 ⟨ho,g H.a,g H.i,g H.d,g H.f,g H.t,g H.m,g H.n⟩
theorem trunc {w w':b8}{Z Z':ag}(H:SH w Z) (H':SH w' Z') (hM:w'.kM=w.kM) (hN:w'.kN=w.kN) (hl:Z.length<=Z'.length) (F:∀ i,i<Z.length->i≠1->i≠3->i≠4->i≠5->i≠w.kM->i≠w.kN->Z'[i]?=Z[i]?):SH w' (Z'.take Z.length)/\Fr w Z (Z'.take Z.length):=by
 have g:∀ {i:Nat}{c c':Cell},Z[i]?=some c->Z'[i]?=some c'->(Z'.take Z.length)[i]?=some c':=fun h h'=>(List.getElem?_take_of_lt (bj h)).trans h';have a:=g H.a H'.a;have d:=g H.d H'.d;have f:=g H.f H'.f;have t:=g H.t H'.t;have m:=g H.m (hM▸H'.m);have n:=g H.n (hN▸H'.n);have ln:(Z'.take Z.length).length=Z.length:=by refine aa (List.length_take ..) ?_;exact GW hl
 have ho:dI (Z'.take Z.length):=by
  unfold dI;rw [ln,List.all_eq_true];intro c hc;refine be (List.mem_iff_getElem?.mp hc) fun i hi=>?_;have hlt:i<Z.length:=ln▸bj hi;have hk:∀ {k:Nat}{c:Cell},Z[k]?=some c->cO Z.length (.own k)=true:=fun h=>aA (bj h);by_cases h1:i=1
  ·subst h1;rw [a] at hi;refine bp hi ?_;show (cO _ _&&(cO _ _&&(cO _ _&&(cO _ _&&(cO _ _&&(cO _ _&&(cO _ _&&(cO _ _&&true))))))))=true
   (refine aa (hk H.d ..) (aa (hk H.f ..) (aa (hk H.t ..) ?_));rw [hM];refine aa (hN ..) (aa (hk H.m ..) (aa (hk H.n ..) (aa (show cO Z.length (.tup (w'.clash.map bn))=true from bw (fun ζ=>rfl) w'.clash ..) ?_))));rfl
  by_cases h3:i=3
  ·subst h3;rw [d] at hi;refine bp hi ?_;exact bw (fun ζ=>fA) _
  by_cases h4:i=4
  ·subst h4;rw [f] at hi;refine bp hi ?_;exact bw (fun ζ=>fA) _
  by_cases h5:i=5
  ·subst h5;rw [t] at hi;refine bp hi ?_;exact bw (fun ζ=>py _) _
  by_cases hm:i=w.kM
  ·subst hm;rw [m] at hi;refine bp hi ?_;exact bw (fun ζ=>rfl) _
  by_cases hn:i=w.kN
  ·subst hn;rw [n] at hi;refine bp hi ?_;rfl
  ·rw [List.getElem?_take_of_lt hlt,F i hlt h1 h3 h4 h5 hm hn] at hi;exact List.all_eq_true.mp H.ok c (List.mem_of_getElem? hi)
 refine ⟨⟨ho,a,g H.i H'.i,d,f,t,hM▸m,hN▸n⟩,ln,fun i h1 h3 h4 h5 hm hn=>?_⟩;by_cases hlt:i<Z.length
 ·refine aa (List.getElem?_take_of_lt hlt ..) ?_;exact F i hlt h1 h3 h4 h5 hm hn
 ·exact aa (List.getElem?_eq_none (by rw [ln];exact zd hlt) ..) (aa (List.getElem?_eq_none (zd hlt) ..) rfl)
theorem AP {c:d8}{n:Nat}{ρ:aL}{Z:ag}{b:List Stmt}{A:List cI}{w:b8}{S:Prop}(H:SH w Z) (h:Xs c n ρ Z b fun fl ζ Z'=>∃ ok w',fl=.ret (.bool ok)/\SH w' Z'/\Out A w S ok w'/\Z.length<=Z'.length/\∀ i,i<Z.length->i≠1->i≠3->i≠4->i≠5->i≠w.kM->i≠w.kN->Z'[i]?=Z[i]?) :
  ∃ v Z',cL false Z (cB c n ρ Z b)=some (v,Z')/\m6 A w Z S v Z':=by
 refine cp h fun fl ρ' Z' h1 Q0=>?_;clear h;refine eA (Q0) fun ok w' Q1 H' U hl F=>?_;clear Q0;subst Q1;refine bl (trunc H H' U.gd.same.2.2.1 U.gd.same.2.2.2 hl F) fun H2 F2=>?_;refine ⟨.bool ok,Z'.take Z.length,?_,ok,w',rfl,H2,F2,U⟩;refine aa (h1 ..) ?_;show (if false=true then some (V.bool ok,Z') else if (Z'.take Z.length).all (mN Z.length)&&cO Z.length (gI Z' Z.length (.bool ok)) then some (gI Z' Z.length (.bool ok),Z'.take Z.length) else none)=_;have:=H2.ok;unfold dI at this;rw [F2.len] at this;refine aa (if_neg (by simp) ..) (aa (this ..) ?_);rfl
theorem ss {Z:ag}{l:List (List Int)}(h:l.length<64) (hn:∀ t∈l,t≠[]):eG Z (.builtin "sorted") [.lst (l.map fun t=>V.tup (t.map .int))]=some (.lst ((cP cu l).map fun t=>V.tup (t.map .int))):=by
 induction l using OA with
 | nil=>rfl
 | cons a r =>
  have e:c7 ((a::r).map fun t=>V.tup (t.map .int))=none:=rfl;show (if ((a::r).map fun t=>V.tup (t.map .int)).length<64 then (match c7 ((a::r).map fun t=>V.tup (t.map .int)) with
    | some a=>some (V.lst ((cP (fun x y=>decide (x<=y)) a).map .int))
    | none=>(cS ((a::r).map fun t=>V.tup (t.map .int))).bind fun a=>if a.all (fun t=>!t.isEmpty) then some (V.lst ((cP cu a).map fun t=>.tup (t.map .int))) else none) else none)=_
  refine aa (if_pos (by rw [ah];exact h) ..) (aa (e ..) ?_);show (cS ((a::r).map fun t=>V.tup ((id t).map .int))).bind _=_;refine aa (k6 ..) (aa (List.map_id ..) ?_);exact if_pos (by rw [List.all_eq_true];intro t ht;induction t using OA with | nil=>exact absurd rfl (hn _ ht) | cons=>rfl)
theorem jR {α:Type}{le:α->α->Bool}{x y:α}:∀ {l:List α},y∈eY le x l↔y=x\/y∈l
 | []=>by simp [eY]
 | z::r=>by
  unfold eY
  split
  ·simp
  ·rw [List.mem_cons,jR,List.mem_cons];constructor<;>rintro (h | h | h)<;>simp [h]
theorem f7 {α:Type}{le:α->α->Bool}{y:α}:∀ {l:List α},y∈cP le l↔y∈l
 | []=>Iff.rfl
 | z::r=>by unfold cP;rw [jR,f7,List.mem_cons]
noncomputable def yf (C:Cs):List (Str×V):=[(T "number",.int (-1)),(T "scope",.tup ((C.taken++[C.n]).map aO)),(T "strength",.str (T "weak")),(T "taken",.tup (C.taken.map aO)),(T "n",aO C.n)]
structure AN (C:Cs) (Z:ag):Prop where
 a:Z[10]?=some (.attrs (yf C))
 i:Z[11]?=some (.inst 448 10)
theorem AN.fr {C:Cs}{w:b8}{Z Z':ag}(h:AN C Z) (W:Wk w) (f:Fr w Z Z'):AN C Z':=by
 have hM:=W.kM.ne;have hN:=W.kN.ne;exact ⟨(f.at' 10 (by decide) (by decide) (by decide) (by decide) (za hM) (za hN)).trans h.a,(f.at' 11 (by decide) (by decide) (by decide) (by decide) (y9 hM) (y9 hN)).trans h.i⟩
theorem AN.app {C:Cs}{Z l:ag}(h:AN C Z):AN C (Z++l):=⟨(fg (bj h.a)).trans h.a,(fg (bj h.i)).trans h.i⟩
section
variable {n:Nat}{Z:ag}{w:b8}{C:Cs}{ρ:aL}{N:Nat}{p p' p2 p3:Pos}
theorem j3 {x:Str}{v:V}{o:Expr}(G:AN C Z) (h:ev (bD n) N ρ Z o=some (.own 11,Z)) (h3:iX 448 x=true) (h4:lk x (yf C)=some v):ev (bD n) (N+1) ρ Z (.Attribute o x p)=some (v,Z):=sg h G.i G.a h3 h4
theorem m5 {m:Str}{f:Addr}{as:List Expr}{vs:List V}{Z2 Z':ag}{o:Expr}{v:V}(G:AN C Z) (h:ev (bD n) N ρ Z o=some (.own 11,Z)) (h3:lk m (yf C)=none) (h4:rD 448 m=some f) (h5:evs (bD n) N ρ Z as=some (vs,Z2)) (h6:cV n f (.own 11::vs) Z2=some (v,Z')) :
  ev (bD n) (N+1) ρ Z (.Call (.Attribute o m p) as [] p')=some (v,Z'):=rY h G.i G.a h3 h4 h5 h6
end
noncomputable def jI (d:List Nat) (x:Nat):Int:=lo (cv d x)
noncomputable def tD (d:List Nat) (x:Nat):Bool:=fx (cv d x)
noncomputable def dU (d:List Nat) (l:List Nat):List Nat:=l.filter (tD d)
noncomputable def iH (d:List Nat) (F:List Nat) (x:Nat):List Nat:=if tD d x then (if decide (jI d x∈F.map (jI d)) then F else F++[x]) else F
noncomputable def dj (d:List Nat) (l:List Nat):List Nat:=l.foldl (iH d) []
noncomputable def mU (d:List Nat) (x:Nat):cR:=nl x .eq (jI d x)
noncomputable def dL (d:List Nat) (l:List Nat):Int:=(l.length:Int) - (dU d l).length+(dj d l).length
theorem qm (d:List Nat) (l:List Nat):(dj d l).length<=l.length:=by
 have key:∀ (l F:List Nat),(l.foldl (iH d) F).length<=F.length+l.length:=by
  intro l
  induction l with
  | nil=>intro F;exact aU _
  | cons x r ih =>
   intro F;have:=ih (iH d F x);have h2:(iH d F x).length<=F.length+1:=by unfold iH;split<;>(try split)<;>simp
   refine aa (List.foldl_cons ..) (aa (aR ..) ?_);exact NH this h2
 have:=key l [];rw [List.length_nil,Nat.zero_add] at this;exact this
theorem okh_lsts {Z:ag}{l:List (List V)}(ho:dI Z) (h:∀ x∈l,dA 0 x=true):dI (Z++l.map Cell.lst):=by
 induction l generalizing Z with
 | nil=>simpa using ho
 | cons a r ih =>
  have:=ih (Z:=Z++[.lst a]) (jo (c:=.lst a) ho (f4 (Nat.zero_le (Z.length+1)) _ (h a (.head _)))) (fun x hx=>h x (.tail _ hx))
  rwa [List.append_assoc] at this
theorem tC (x y:Int) (h:V.int x=V.int y):x=y:=by injection h
theorem jq {x:Int}{l:List Int}:V.int x∈l.map V.int↔x∈l:=by
 rw [aX];exact ⟨fun ⟨y,hy,e⟩=>tC _ _ e▸hy,fun h=>⟨x,h,rfl⟩⟩
noncomputable def c3 (F G S:List V):ag:=[.lst F,.lst G,.lst S]
theorem AS {Z:ag}{F G S:List V}(ho:dI Z) (h1:dA 0 F=true) (h2:dA 0 G=true) (h3:dA 0 S=true):dI (Z++c3 F G S) :=
 okh_lsts (l:=[F,G,S]) ho (by
  intro x hx;simp only [List.mem_cons,List.not_mem_nil,or_false] at hx;rcases hx with rfl | rfl | rfl
  ·exact h1
  ·exact h2
  ·exact h3)
theorem N0 {Z:ag}{F G S F':List V}:(Z++c3 F G S).set Z.length (.lst F')=Z++c3 F' G S:=oi (i:=0)
theorem NY {Z:ag}{F G S F':List V}:(Z++c3 F G S).set (Z.length+1) (.lst F')=Z++c3 F F' S:=oi
theorem NX {Z:ag}{F G S F':List V}:(Z++c3 F G S).set (Z.length+2) (.lst F')=Z++c3 F G F':=oi
noncomputable def xe (d:List Nat) (l:List Nat):List V:=l.map fun x=>bn (mU d x)
noncomputable def zy (d:List Nat) (l:List Nat):List V:=l.map fun x=>V.int (jI d x)
theorem f5 {d l:List Nat}:dA 0 (xe d l)=true:=bw (fun ζ=>rfl) l
theorem kU {d l:List Nat}:dA 0 (zy d l)=true:=bw (fun ζ=>rfl) l
noncomputable def vd (d:List Nat) (l:List Nat):ag:=c3 (xe d (dU d l)) (xe d (dj d l)) (zy d (dj d l))
theorem BR {Z:ag}(ho:dI Z) (d l:List Nat):dI (Z++vd d l):=AS ho f5 f5 kU
noncomputable def AM (b:Nat):Option Nat->aL
 | none=>[(T "self",.own 11),(T "store",.own 2),(T "fixed",.own b),(T "firsts",.own (b+1)),(T "seen",.own (b+2))]
 | some x=>[(T "self",.own 11),(T "store",.own 2),(T "fixed",.own b),(T "firsts",.own (b+1)),(T "seen",.own (b+2)),(T "x",aO x)]
noncomputable def Ov:List Expr:=match (bm 25 3)[0]? with | some (Stmt.Assign _ (Expr.Tuple l _ _) _)=>l | _=>[]
section
variable {n:Nat}{Z:ag}{w:b8}{C:Cs}(H:SH w Z) (W:Ws w) (G:AN C Z) (O:i7 C w)
include H W G O
theorem mO:cV (n+2) 412 [.own 11,.own 2] Z=some (.tup [.lst ((dU w.doms C.taken).map fun x=>bn (mU w.doms x)),.lst ((dj w.doms C.taken).map fun x=>bn (mU w.doms x)),.int (dL w.doms C.taken)],Z):=by
 show cL false Z (cB (bD (n+1)) 200 [(T "self",.own 11),(T "store",.own 2)] Z (bm 25 3))=_;have hl:(C.taken.map aO).length<=lim:=aI (by have:=O.len;exact jJ this);have e0:evs (bD (n+1)) 197 [(T "self",.own 11),(T "store",.own 2)] Z Ov=some ([.own Z.length,.own (Z.length+1),.own (Z.length+2)],Z++vd w.doms []):=by
  refine (ap (dz b0 rfl) (ap (dz b0 rfl) (am (dz b0 rfl)))).trans ?_;simp [vd,dU,dj,c3,xe,zy]
 have ok3:ok 3 (.int 0):=⟨rfl,rfl⟩;refine lO H.ok (show (dA _ _&&(dA _ _&&true))=true by refine aa (bw (fun ζ=>rfl) ..) (aa (bw (fun ζ=>rfl) ..) ?_);rfl) (bu rfl (cf e0) (ρ':=AM Z.length none) rfl (dg rfl rfl (j3 G.app rfl rfl rfl) (cj hl) ?_));refine cm (enc:=aO) (fun r ρ Z'=>∃ o done,ρ=AM Z.length o/\Z'=Z++vd w.doms done/\done++r=C.taken) ⟨none,[],rfl,rfl,rfl⟩ ?_ ?_
 ·intro ρ;intro _;intro Q0;refine bG (Q0) fun o done Q1 Q2 e=>?_;clear Q0;subst Q1;subst Q2;rw [List.append_nil] at e;subst e;have l1:(dU w.doms C.taken).length<=4:=cU O.len;have l2:(dj w.doms C.taken).length<=4:=af (qm _ _) O.len;have e1:∀ {N:Nat}{p p2 p3 p4 p5 p6 p7 p8 p9 p10 p11 p12:Pos},ev (bD (n+1)) (N+8) (AM Z.length o) (Z++vd w.doms C.taken) (.BinOp (.BinOp (.Call (.Name (T "len") p) [.Attribute (.Name (T "self") p2) (T "taken") p3] [] p4) .Sub (.Call (.Name (T "len") p5) [.Name (T "fixed") p6] [] p7) p8) .Add (.Call (.Name (T "len") p9) [.Name (T "firsts") p10] [] p11) p12)=some (.int (dL w.doms C.taken),Z++vd w.doms C.taken):=by
   intros
   refine cF (cF (cW (i:= "len") (by exact bz o rfl fun ζ=>rfl) (am (j3 G.app (by exact bz o rfl fun ζ=>rfl) rfl rfl)) (cG rfl hl)) (cW (i:= "len") (by exact bz o rfl fun ζ=>rfl) (am (v:=.own Z.length) (by exact bz o rfl fun ζ=>rfl)) (cG (cD (eL (i:=0))) (aI (jJ l1)))) rfl) (cW (i:= "len") (by exact bz o rfl fun ζ=>rfl) (am (v:=.own (Z.length+1)) (by exact bz o rfl fun ζ=>rfl)) (cG (cD (eL (i:=1))) (aI (jJ l2)))) ?_;refine aa (ah ..) (aa (ah ..) (aa (ah ..) ?_));rfl
  refine bo rfl (cf (ap (v:=.own Z.length) (bz o rfl fun ζ=>rfl) (ap (v:=.own (Z.length+1)) (bz o rfl fun ζ=>rfl) (am e1)))) ⟨_,rfl,?_⟩;show V.tup [if Z.length<=Z.length then _ else _,if Z.length<=Z.length+1 then _ else _,_]=_;refine aa (if_pos (aU _) ..) (aa (if_pos (Nat.le_succ _) ..) (aa (eL (i:=1) ..) (aa (show Z.length=Z.length+0 from rfl ..) (aa (eL (i:=0) ..) ?_))));rfl
 ·intro x;intro r;intro ρ;intro _;intro Q3;refine bG (Q3) fun o done Q4 Q5 e=>?_;clear Q3;subst Q4;subst Q5;have hx:x<w.doms.length:=O.x x (by refine aa (aH (e ..)) ?_;simp);have H1:SH w (Z++vd w.doms done):=kK H (BR H.ok _ _);have dl:done.length<=4:=by have:=O.len;rw [← e,ai] at this;exact Ij this
  have l1:(dU w.doms done).length<=4:=cU dl;have l2:(dj w.doms done).length<=4:=af (qm _ _) dl;have nx:∀ {d:ag},d=vd w.doms (done++[x])->(∃ o done',AM Z.length (some x)=AM Z.length o/\Z++d=Z++vd w.doms done'/\done'++r=C.taken):=fun h=>⟨some x,done++[x],rfl,by exact aa (h ..) rfl,by refine aa (List.append_assoc ..) ?_;exact e⟩;have fN:dU w.doms (done++[x])=dU w.doms done++if tD w.doms x then [x] else []:=by unfold dU;refine aa (List.filter_append ..) (aa (List.filter_cons ..) ?_);rfl
  have gN:dj w.doms (done++[x])=iH w.doms (dj w.doms done) x:=by unfold dj;refine aa (List.foldl_append ..) ?_;rfl
  refine ⟨AM Z.length (some x),by induction o using Oy<;>rfl,bW rfl (d:=tD w.doms x) (dO H1 rfl rfl rfl (am rfl) (lm H1 W (bU hx))) (fun h=>?_) fun h=>aY (aY (nx ?_))⟩
  ·have fN:dU w.doms (done++[x])=dU w.doms done++[x]:=by refine aa (fN ..) (aa (h ..) ?_);rfl
   have F1:xe w.doms (dU w.doms done)++[bn (mU w.doms x)]=xe w.doms (dU w.doms (done++[x])):=by refine aa (fN ..) ?_;unfold xe;refine aa (aK ..) ?_;rfl
   have lF:∀ l:List Nat,l.length<=4->(xe w.doms l).length<=lim:=fun l h=>aI (jJ h);have lS:∀ l:List Nat,l.length<=4->(zy w.doms l).length<=lim:=fun l h=>aI (jJ h);have H2:∀ {F G S:List V},dA 0 F=true->dA 0 G=true->dA 0 S=true->SH w (Z++c3 F G S):=fun a b c=>kK H (AS H.ok a b c);have ev1:∀ {N:Nat}{τ:ag}{p p2 p3 p4:Pos},SH w τ->ev (bD (n+1)) (N+4) (AM Z.length (some x)) τ (.Call (.Attribute (.Name (T "store") p) (T "value") p2) [.Name (T "x") p3] [] p4)=some (.int (jI w.doms x),τ):=fun Hτ=>dO Hτ rfl rfl rfl (am rfl) (pD Hτ W (bU hx));have ev2:∀ {N:Nat}{τ:ag}{p p2 p3 p4 p5 p6 p7:Pos}{z z2:Nat},SH w τ->ev (bD (n+1)) (N+8) (AM Z.length (some x)) τ (.Tuple [.Name (T "x") p,.Constant (.str (T "=")) z p2,.Call (.Attribute (.Name (T "store") p3) (T "value") p4) [.Name (T "x") p5] [] p6] z2 p7)=some (bn (mU w.doms x),τ):=fun Hτ=>cf (ap rfl (ap rfl (am (ev1 Hτ))));refine cJ rfl (c9 (k:=Z.length) rfl (eL (i:=0)) (am (ev2 H1)) (eL (i:=0)) (lF _ l1) cK) ?_;unfold vd;refine aa (N0 ..) (aa (F1 ..) ?_);have H3:=H2 (f5 (d:=w.doms) (l:=dU w.doms (done++[x]))) (f5 (d:=w.doms) (l:=dj w.doms done)) (kU (d:=w.doms) (l:=dj w.doms done));refine bW rfl (d:=!decide (jI w.doms x∈(dj w.doms done).map (jI w.doms))) (bq (ev1 H3) rfl (nS (l:=zy w.doms (dj w.doms done)) (cD eL) ⟨rfl,rfl⟩ (cH (fun ζ=>rfl) _) (eR (fun ζ=>rfl) _) ?_)) (fun h2=>?_) fun h2=>aY (aY (aY (nx ?_)))
   ·rw [decide_eq_true_iff];unfold zy;rw [show (dj w.doms done).map (fun x=>V.int (jI w.doms x))=((dj w.doms done).map (jI w.doms)).map V.int by rw [List.map_map];rfl,jq]
   ·have gN:dj w.doms (done++[x])=dj w.doms done++[x]:=by
     (refine aa (gN ..) ?_;rw [iH];refine aa (h ..) ?_)
     induction hd:decide (jI w.doms x∈(dj w.doms done).map (jI w.doms)) using Oz with
     | true=>rw [hd] at h2;exact aM h2
     | false=>rfl
    have G1:xe w.doms (dj w.doms done)++[bn (mU w.doms x)]=xe w.doms (dj w.doms (done++[x])):=by refine aa (gN ..) ?_;unfold xe;refine aa (aK ..) ?_;rfl
    have S1:zy w.doms (dj w.doms done)++[V.int (jI w.doms x)]=zy w.doms (dj w.doms (done++[x])):=by refine aa (gN ..) ?_;unfold zy;refine aa (aK ..) ?_;rfl
    refine cJ rfl (c9 (k:=Z.length+2) rfl eL (am (ev1 H3)) eL (lS _ l2) cK) ?_;refine aa (NX ..) (aa (S1 ..) ?_);have H4:=H2 (f5 (d:=w.doms) (l:=dU w.doms (done++[x]))) (f5 (d:=w.doms) (l:=dj w.doms done)) (kU (d:=w.doms) (l:=dj w.doms (done++[x])));refine cJ rfl (c9 (k:=Z.length+1) rfl eL (am (ev2 H4)) eL (lF _ l2) cK) ?_;refine aa (NY ..) (aa (G1 ..) ?_);exact aY (aY (aY (nx rfl)))
   ·have gN:dj w.doms (done++[x])=dj w.doms done:=by
     (refine aa (gN ..) ?_;rw [iH];refine aa (h ..) ?_)
     induction hd:decide (jI w.doms x∈(dj w.doms done).map (jI w.doms)) using Oz with
     | true=>rfl
     | false=>rw [hd] at h2;exact cg h2
    unfold vd;exact aa (gN ..) rfl
  ·unfold vd;(refine aa (fN ..) (aa (gN ..) ?_);rw [iH];refine aa (h ..) ?_);simp
end
theorem fy {α β:Type}{f:β->α->β}{P:List α->β->Prop}{b:β}(h0:P [] b) (hs:∀ done x b,P done b->P (done++[x]) (f b x)) (l:List α):P l (l.foldl f b):=by
 have key:∀ (r done:List α) (b:β),P done b->P (done++r) (r.foldl f b):=by
  intro r
  induction r with
  | nil=>intro done b h;refine aa (List.append_nil ..) ?_;exact h
  | cons x r ih =>
   intro done b h;have:=ih (done++[x]) (f b x) (hs done x b h);rw [List.append_assoc] at this;exact this
 have:=key l [] b h0;exact this
theorem gR {α:Type} [DecidableEq α]:∀ {l m:List α},l.Nodup->(∀ x∈l,x∈m)->l.length<=m.length
 | [],_,_,_=>Nat.zero_le _
 | a::l,m,hn,hs=>by
  have hn:=List.nodup_cons.mp hn;have ha:=hs a (.head _);have:=gR (l:=l) (m:=m.erase a) hn.2 (fun x hx=>(List.mem_erase_of_ne (by rintro rfl;exact hn.1 hx)).mpr (hs x (.tail _ hx)));rw [List.length_erase_of_mem ha] at this;have:=List.length_pos_of_mem ha;refine aa (aR ..) ?_;exact LW ‹_› this
noncomputable def kY (s:List Int) (v:Int):List Int:=if decide (v∈s) then s else s++[v]
noncomputable def k4 (l:List Int):List Int:=l.foldl kY []
theorem lG {α:Type}{l:List α}{x:α}(h:l.Nodup) (hx:x∉l):(l++[x]).Nodup:=by
 rw [List.nodup_append];exact ⟨h,by simp,fun a ha b hb=>by rw [an.mp hb];rintro rfl;exact hx ha⟩
theorem jc (l:List Int):(k4 l).Nodup/\∀ v,v∈k4 l↔v∈l:=by
 refine fy (P:=fun done b=>b.Nodup/\∀ v,v∈b↔v∈done) ⟨by simp,fun v=>Iff.rfl⟩ (fun done x b h=>?_) l;unfold kY;by_cases hx:x∈b
 ·refine aa (if_pos (aA hx) ..) ?_;refine ⟨h.1,fun v=>?_⟩;rw [aN,an,← h.2 v];exact ⟨.inl,fun h'=>h'.elim id fun e=>e▸hx⟩
 ·refine aa (if_neg (by simpa using hx) ..) ?_;exact ⟨lG h.1 hx,fun v=>by rw [aN,aN,h.2 v]⟩
noncomputable def xE (l:List Int):Nat:=(k4 l).length
theorem oT {l m:List Int}(h:∀ v∈l,v∈m):xE l<=m.length:=gR (jc l).1 fun v hv=>h v (((jc l).2 v).mp hv)
theorem rH {l m:List Int}(hn:m.Nodup) (h:∀ v∈m,v∈l):m.length<=xE l:=gR hn fun v hv=>((jc l).2 v).mpr (h v hv)
noncomputable def ci (C:Cs) (a:cI):List Int:=C.taken.map fun x=>a.getD x 0
noncomputable def eC (C:Cs) (a:cI):Prop:=(xE (ci C a):Int)=a.getD C.n 0
noncomputable abbrev Tp:=Int×Int×Nat
noncomputable def M8 (last:Option Int) (l:Int):Bool:=match last with
 | none=>true
 | some k=>decide (k<l)
noncomputable def dN:Option Int->List Tp->List Tp
 | _,[]=>[]
 | last,t::r=>if M8 last t.2.1 then t::dN (some t.1) r else dN last r
noncomputable def AI (s t:Tp):Bool:=cu [s.1,s.2.1,(s.2.2:Nat)] [t.1,t.2.1,(t.2.2:Nat)]
noncomputable def qX (d l:List Nat):List Tp:=cP AI (l.map fun x=>(hi (cv d x),lo (cv d x),x))
noncomputable def eB (C:Cs) (d:List Nat):List Tp:=dN none (qX d C.taken)
noncomputable def DB (ch:List Tp):List cR:=ch.flatMap fun t=>[nl t.2.2 .ge t.2.1,nl t.2.2 .le t.1]
theorem gy:∀ (r:List Tp) (last:Option Int),∀ t∈dN last r,t∈r
 | [],_,_,h=>h
 | t::r,last,u,h=>by
  unfold dN at h;split at h
  ·cases h with
   | head=>exact .head _
   | tail _ h=>exact .tail _ (gy r _ u h)
  ·exact .tail _ (gy r _ u h)
theorem gz:∀ (r:List Tp) (last:Option Int),(dN last r).length<=r.length
 | [],_=>aU _
 | t::r,last=>by
  unfold dN
  split
  ·exact Nat.succ_le_succ (gz r _)
  ·exact Nat.le_succ_of_le (gz r _)
theorem jY {f:Nat->Int}:∀ (r:List Tp) (last:Option Int),(∀ t∈dN last r,t.2.1<=f t.2.2/\f t.2.2<=t.1)->(∀ k,last=some k->∀ t∈dN last r,k<f t.2.2)/\((dN last r).map fun t=>f t.2.2).Pairwise (·<·)
 | [],_,_=>⟨(fun ζ ζ ζ h=>nomatch h),.nil⟩
 | t::r,last,h=>by
  unfold dN at h ⊢
  split
  ·rename_i hg;rw [if_pos hg] at h;have ih:=jY (f:=f) r (some t.1) fun u hu=>h u (.tail _ hu);have ht:=h t (.head _);refine ⟨fun k hk u hu=>?_,List.pairwise_cons.mpr ⟨fun v hv=>?_,ih.2⟩⟩
   ·subst hk;have hg:k<t.2.1:=ao hg
    cases hu with
    | head=>exact LV ht hg
    | tail _ hu=>have:=ih.1 _ rfl u hu;exact LU ht hg this
   ·refine aB (aX.mp hv) fun u hu Q0=>?_;subst Q0;have:=ih.1 _ rfl u hu;show f t.2.2<f u.2.2;exact LT ht this
  ·rename_i hg;rw [if_neg hg] at h;exact jY r last h
theorem j0 (d l:List Nat):((dj d l).map (jI d)).Nodup/\(∀ x∈dj d l,x∈dU d l)/\∀ x∈dU d l,jI d x∈(dj d l).map (jI d):=by
 refine fy (P:=fun done (F:List Nat)=>(F.map (jI d)).Nodup/\(∀ x∈F,x∈dU d done)/\∀ x∈dU d done,jI d x∈F.map (jI d)) ⟨by simp,by simp,by simp [dU]⟩ (fun done x F h=>?_) l;have e:dU d (done++[x])=dU d done++if tD d x then [x] else []:=by unfold dU;refine aa (List.filter_append ..) (aa (List.filter_cons ..) ?_);rfl
 refine aa (e ..) ?_;unfold iH
 induction hf:tD d x using Oz with
 | false=>simpa using h
 | true =>
  refine aa (if_pos rfl ..) (aa (if_pos rfl ..) ?_);by_cases hm:jI d x∈F.map (jI d)
  ·refine aa (if_pos (aA hm) ..) ?_;refine ⟨h.1,fun y hy=>aT _ (h.2.1 y hy),fun y hy=>?_⟩;rcases aN.mp hy with hy | hy
   ·exact h.2.2 y hy
   ·refine aa (an.mp hy ..) ?_;exact hm
  ·refine aa (if_neg (by simpa using hm) ..) (aa (aK ..) ?_);refine ⟨lG h.1 hm,fun y hy=>?_,fun y hy=>?_⟩
   ·rcases aN.mp hy with hy | hy
    ·exact aT _ (h.2.1 y hy)
    ·exact List.mem_append_right _ hy
   ·rcases aN.mp hy with hy | hy
    ·exact aT _ (h.2.2 y hy)
    ·refine aa (an.mp hy ..) ?_;exact List.mem_append_right _ (.head _)
noncomputable def fH (d l:List Nat):List Nat:=l.filter fun x=>!tD d x
theorem xd (d l:List Nat):(fH d l).length+(dU d l).length=l.length:=by
 unfold fH dU
 induction l with
 | nil=>rfl
 | cons x r ih =>
  refine aa (List.filter_cons ..) (aa (List.filter_cons ..) (aa (aR ..) ?_))
  cases tD d x<;>simp<;>(first | exact LS ih | exact LR ih)
theorem lK (d l:List Nat):dL d l=((fH d l).length+(dj d l).length:Nat):=by
 have:=xd d l;unfold dL;exact LQ this
noncomputable def iS (C:Cs) (d:List Nat):List cR:=(dU d C.taken).map (mU d)
noncomputable def j1 (C:Cs) (d:List Nat):List cR:=(dj d C.taken).map (mU d)
noncomputable def dS (C:Cs) (d:List Nat):List Int:=(dj d C.taken).map (jI d)
theorem jU (C:Cs) (d:List Nat):(dS C d).length=(dj d C.taken).length:=ah _
section
variable {C:Cs}{A:List cI}{d:List Nat}(hA:∀ a∈A,eC C a)
include hA
theorem xh:d7 A (DB (eB C d)) (nl C.n .ge (eB C d).length):=by
 intro a ha h;have hm:=hA a ha;unfold eC at hm;refine aa (dR ..) (aa (aH (hm ..)) ?_);refine aA (Int.ofNat_le.mpr ?_);have key:=(jY (f:=fun x=>a.getD x 0) (qX d C.taken) none fun t ht=>⟨ao (h (nl t.2.2 .ge t.2.1) (List.mem_flatMap.mpr ⟨t,ht,.head _⟩)),ao (h (nl t.2.2 .le t.1) (List.mem_flatMap.mpr ⟨t,ht,.tail _ (.head _)⟩))⟩).2;have nd:((eB C d).map fun t=>a.getD t.2.2 0).Nodup:=key.imp fun h=>Int.ne_of_lt h;have:=rH (l:=ci C a) nd fun v hv=>?_
 ·rwa [ah] at this
 ·refine aB (aX.mp hv) fun t ht Q0=>?_;subst Q0;refine aB (aX.mp (f7.mp (gy _ _ t ht))) fun x hx e=>?_;refine aX.mpr ⟨x,hx,?_⟩;exact aa (aH (e ..)) rfl
omit hA in
theorem tF {a:cI}(h:∀ r∈iS C d,fC r a=true):∀ x∈C.taken,tD d x=true->a.getD x 0∈dS C d:=by
 intro x hx hf;have hx':x∈dU d C.taken:=aV.mpr ⟨hx,hf⟩;have:=ao (h (mU d x) (aX.mpr ⟨x,hx',rfl⟩));have e:a.getD x 0=jI d x:=this;refine aa (e ..) ?_;exact (j0 d C.taken).2.2 x hx'
theorem zA:d7 A (iS C d) (nl C.n .le (dL d C.taken)):=by
 intro a ha h;have hm:=hA a ha;unfold eC at hm;refine aa (dR ..) (aa (aH (hm ..)) (aa (lK ..) ?_));refine aA (Int.ofNat_le.mpr ?_);have:=oT (l:=ci C a) (m:=(fH d C.taken).map (fun x=>a.getD x 0)++dS C d) fun v hv=>?_
 ·rwa [ai,ah,jU] at this
 ·refine aB (aX.mp hv) fun x hx Q0=>?_;subst Q0
  induction hf:tD d x using Oz with
  | true=>exact List.mem_append_right _ (tF h x hx hf)
  | false=>exact aT _ (aX.mpr ⟨x,aV.mpr ⟨hx,by refine aa (hf ..) ?_;rfl⟩,rfl⟩)
theorem BU {x:Nat}{v:Int}(hx:x∈C.taken) (hv:v∉dS C d):d7 A (j1 C d++[nl C.n .le (dS C d).length]) (nl x .ne v):=by
 intro a ha h;have hm:=hA a ha;unfold eC at hm;have h1:=h (nl C.n .le (dS C d).length) (by simp);rw [dR,← hm] at h1;have h1:=Int.ofNat_le.mp (ao h1);refine aa (dR ..) ?_;show (!decide (a.getD x 0=v))=true
 induction he:decide (a.getD x 0=v) using Oz with
 | false=>rfl
 | true =>
  exfalso
  have he:=ao he;have:=rH (l:=ci C a) (m:=v::dS C d) (List.nodup_cons.mpr ⟨hv,(j0 d C.taken).1⟩) fun u hu=>?_
  ·rw [aR] at this;exact LP h1 this
  ·cases hu with
   | head=>exact aX.mpr ⟨x,hx,he⟩
   | tail _ hu =>
    refine aB (aX.mp hu) fun y hy Q0=>?_;subst Q0;have:=ao (h (mU d y) (aT _ (aX.mpr ⟨y,hy,rfl⟩)));exact aX.mpr ⟨y,(aV.mp ((j0 d C.taken).2.1 y hy)).1,this⟩
theorem BS {x:Nat}{v:Int}(hx:x∈fH d C.taken) (hv:v∈dS C d):d7 A (iS C d++[nl C.n .ge (dL d C.taken)]) (nl x .ne v):=by
 intro a ha h;have hm:=hA a ha;unfold eC at hm;have h1:=h (nl C.n .ge (dL d C.taken)) (by simp);rw [dR,← hm,lK] at h1;have h1:=Int.ofNat_le.mp (ao h1);refine aa (dR ..) ?_;show (!decide (a.getD x 0=v))=true
 induction he:decide (a.getD x 0=v) using Oz with
 | false=>rfl
 | true =>
  exfalso
  have he:=ao he;have:=oT (l:=ci C a) (m:=((fH d C.taken).erase x).map (fun x=>a.getD x 0)++dS C d) fun u hu=>?_
  ·rw [ai,ah,jU,List.length_erase_of_mem hx] at this;have:=List.length_pos_of_mem hx;exact LO h1 ‹_› this
  ·refine aB (aX.mp hu) fun y hy Q0=>?_;subst Q0
   induction hf:tD d y using Oz with
   | true=>exact List.mem_append_right _ (tF (fun r hr=>h r (aT _ hr)) y hy hf)
   | false =>
    by_cases hxy:y=x
    ·subst hxy;refine aa (he ..) ?_;exact List.mem_append_right _ hv
    ·exact aT _ (aX.mpr ⟨y,(List.mem_erase_of_ne hxy).mpr (aV.mpr ⟨hy,by refine aa (hf ..) ?_;rfl⟩),rfl⟩)
end
noncomputable def Nj (t:Tp):List Int:=[t.1,t.2.1,(t.2.2:Nat)]
noncomputable def zH (t:Tp):V:=.tup ((Nj t).map .int)
noncomputable def tz:Option Int->V
 | none=>.none
 | some k=>.int k
noncomputable def N3 (b:Nat) (many:Int) (last:Option Int):Option Tp->aL
 | none=>[(T "self",.own 11),(T "store",.own 2),(T "reasons",.own b),(T "many",.int many),(T "last",tz last)]
 | some t=>[(T "self",.own 11),(T "store",.own 2),(T "reasons",.own b),(T "many",.int many),(T "last",tz last),(T "high",.int t.1),(T "low",.int t.2.1),(T "x",aO t.2.2)]
theorem iN {C:Cs}{d:List Nat}:(qX d C.taken).length=C.taken.length:=by unfold qX;exact aa (fv ..) (aa (ah ..) rfl)
theorem sU (ch:List Tp):(DB ch).length=2*ch.length:=by
 unfold DB
 induction ch with
 | nil=>rfl
 | cons t r ih=>refine aa (List.flatMap_cons ..) (aa (ai ..) (aa (ih ..) (aa (aR ..) ?_)));simp;exact Ii
theorem NW {Z:ag}{o:Option Int}:mj Z .Is (tz o) .none=some o.isNone:=by induction o using Oy<;>rfl
section
variable {n:Nat}{Z:ag}{w:b8}{C:Cs}{A:List cI}(H:SH w Z) (W:Ws w) (G:AN C Z) (O:i7 C w) (hf:w.failed=false) (hA:∀ a∈A,eC C a)
include W O
theorem wX:∀ r∈DB (eB C w.doms),eE w.doms r:=by
 intro r hr;refine aB (List.mem_flatMap.mp hr) fun t ht hr=>?_;refine aB (aX.mp (f7.mp (gy _ _ t ht))) fun x hx Q0=>?_;subst Q0;have hl:=O.x x hx;have hm:=W.m hl;simp only [List.mem_cons,List.not_mem_nil,or_false] at hr;rcases hr with rfl | rfl
 ·exact eE.at (bU hl) fun v hv=>aA (nB hm v hv).1
 ·exact eE.at (bU hl) fun v hv=>aA (nB hm v hv).2
include H G hf hA
theorem lp:Ends (n+7) 405 [.own 11,.own 2] Z (m6 A w Z (eF w.doms (nl C.n .ge (eB C w.doms).length))):=by
 show ∃ u Z',cL false Z (cB (bD (n+6)) 200 [(T "self",.own 11),(T "store",.own 2)] Z (bm 25 2))=some (u,Z')/\_;have hl:(C.taken.map aO).length<=lim:=aI (by have:=O.len;exact jJ this);have hl4:=O.len;have hch:(eB C w.doms).length<=4:=af (gz _ _) (by exact aa (iN ..) (hl4));have H0:∀ {L:List cR},SH w (Z++[.lst (L.map bn)]):=fun {L}=>gr H (bw (fun ζ=>rfl) L);have G0':∀ {c:Cell},AN C (Z++[c]):=G.app;refine AP H (bu rfl (v:=.tup [.own Z.length,.int 0,.none]) (Z1:=Z++[.lst (([]:List cR).map bn)]) rfl (ρ':=N3 Z.length 0 none none) rfl ?_);have hs:∀ {τ:ag},eG τ (.builtin "sorted") [.lst (C.taken.flatMap fun x=>if true then [zH (hi (cv w.doms x),lo (cv w.doms x),x)] else [])]=some (.lst ((qX w.doms C.taken).map zH)):=by
  intro τ;refine aa (e6 ..) ?_;have:=ss (Z:=τ) (l:=(C.taken.map fun x=>(hi (cv w.doms x),lo (cv w.doms x),x)).map Nj) (by simp;exact Ih hl4) (by simp [Nj]);rw [jW,List.map_map,List.map_map] at this;exact this.trans (by unfold qX;refine aa (List.map_map ..) ?_;rfl)
 refine dg rfl rfl (cW (i:= "sorted") rfl (am (cN (enc:=aO) (as:=C.taken) (g:=fun x=>if true then [zH (hi (cv w.doms x),lo (cv w.doms x),x)] else []) (j3 G0' rfl rfl rfl) (cj hl) (fun x hx=>ce (d:=true) rfl kD fun ζ=>cf (ap (dO H0 rfl rfl rfl (am rfl) (oh H0 W (bU (O.x x hx)))) (ap (dO H0 rfl rfl rfl (am rfl) (rk H0 W (bU (O.x x hx)))) (am rfl)))) rfl)) hs) (bB (aI (by exact aa (iN ..) (jJ hl4)))) ?_;refine cm (enc:=zH) (fun r ρ Z'=>∃ o last ch,ρ=N3 Z.length (ch.length:Nat) last o/\Z'=Z++[.lst ((DB ch).map bn)]/\ch++dN last r=eB C w.doms) ⟨none,none,[],rfl,rfl,rfl⟩ ?_ ?_
 ·intro ρ;intro _;intro Q0;refine dm (Q0) fun o last ch Q1 Q2 e=>?_;clear Q0;subst Q1;subst Q2;rw [dN,List.append_nil] at e;subst e;refine bQ (dK (n:=n) (x:=C.n) (s:=.ge) (k:=(eB C w.doms).length) (u:=.own Z.length) H0 W hf (cD bJ) (zf hch) O.n (by exact aa (sU ..) (Ig hch)) (wX W O) (xh hA)) fun ζ Z' e2 Q3=>?_;refine bK (Q3) fun ok w' Q4 H' F' U=>?_;clear Q3;subst Q4;refine bo rfl (dO H0 (bz o rfl fun ζ=>rfl) rfl rfl (ap (cf (ap (v:=aO C.n) (j3 G0' (bz o rfl fun ζ=>rfl) rfl rfl) (ap (v:=.str (T ">=")) rfl (am (v:=.int (eB C w.doms).length) (bz o rfl fun ζ=>rfl))))) (am (v:=.own Z.length) (bz o rfl fun ζ=>rfl))) e2) ⟨ok,w',rfl,H',U,by refine aa (F'.len ..) (aa (ez ..) ?_);exact y7,fun i hi h1 h3 h4 h5 hM hN=>(F'.at' i h1 h3 h4 h5 hM hN).trans (fg hi)⟩
 ·intro t;intro r;intro ρ;intro _;intro Q5;refine dm (Q5) fun o last ch Q6 Q7 e=>?_;clear Q5;subst Q6;subst Q7;have hcl:ch.length<=4:=by have:=congrArg List.length e;rw [ai] at this;exact Ie hch this
  refine ⟨N3 Z.length (ch.length:Nat) last (some t),by induction o using Oy<;>rfl,bW rfl (d:=M8 last t.2.1) ((rX (d:=last.isNone) (d':=M8 last t.2.1) (bq (v:=tz last) rfl rfl NW) (fun h=>?_) fun h=>⟨rfl,?_⟩).trans ?_) (fun h=>?_) fun h=>aY (aY ⟨some t,last,ch,rfl,rfl,?_⟩)⟩
  ·induction last using Oy with
   | none=>exact cg h
   | some k=>exact bq rfl rfl rfl
  ·induction last using Oy with
   | none=>rfl
   | some k=>exact aM h
  ·induction last using Oy with
   | none=>rfl
   | some k=>rfl
  ·refine cJ rfl (c9 (k:=Z.length) rfl bJ (am (v:=.lst ([nl t.2.2 .ge t.2.1,nl t.2.2 .le t.1].map bn)) rfl) bJ (aI (by exact aa (sU ..) (Ic hcl))) (pX rfl (aI (by simp)))) (bu rfl (v:=.tup [.int (ch.length+1),.int t.1]) rfl (fR rfl) (aY (aY ⟨some t,some t.1,ch++[t],?_,?_,?_⟩)))
   ·refine aa (ai ..) ?_;rfl
   ·refine aa (eP ..) (aa (aH (aK ..)) ?_);unfold DB;refine aa (List.flatMap_append ..) ?_;rfl
   ·(refine aa (aH (e ..)) ?_;rw [dN];refine aa (if_pos h ..) (aa (List.append_assoc ..) ?_));rfl
  ·(refine aa (aH (e ..)) ?_;rw [dN];exact aa (if_neg (by rw [h];simp) ..) rfl)
end
theorem qr:∀ m:Fin 32,m.val≠0->(fV 0 (iv m) (lo m) (hi m)).length<=8:=by decide +kernel
noncomputable def M2 (x:Int) (l:cR):cR:=⟨x,l.s,l.k⟩
theorem wY (x:Int):∀ (d:Dm) (last:Int),mX x last d=(mX 0 last d).map (M2 x)
 | [],_=>rfl
 | (a,b)::r,last=>by
  show _++mX x b r=List.map (M2 x) (_++mX 0 b r);refine aa (aK ..) (aa (wY x r b ..) (aa (List.map_map ..) ?_));rfl
theorem lf (x:Int) (d:Dm) (l h:Int):fV x d l h=(fV 0 d l h).map (M2 x):=by
 show _::_::mX x (l - 1) d=_;refine aa (wY ..) ?_;rfl
noncomputable def yu (d:List Nat) (x:Nat):List cR:=fV (x:Nat) (iv (cv d x)) (jI d x) (hi (cv d x))
noncomputable def c8 (d:List Nat) (l:List Nat):Nat:=l.foldl (fun m x=>m ||| cv d x) 0
noncomputable def dq (d:List Nat) (l:List Nat):List cR:=l.flatMap (yu d)
theorem yr {n:Nat}{Z:ag}{m x:Nat}(ho:dI Z) (h:0<m/\m<32):cV (n+2) 330 [aO x,cb m] Z=some (.lst ((fV (x:Nat) (iv m) (lo m) (hi m)).map bn),Z):=by
 have e:=fO ⟨m,h.2⟩ (bg.mp h.1);have s:=tG h.2;exact pF ho (af (nJ h.2) (by decide)) e.1 e.2.1 fun p hp=>by have:=s p hp;exact Ib this
theorem sR {d:List Nat}{x:Nat}(h:0<cv d x/\cv d x<32):(yu d x).length<=8:=by
 unfold yu;refine aa (lf ..) (aa (ah ..) ?_);exact qr ⟨_,h.2⟩ (bg.mp h.1)
theorem gp {d:List Nat}:∀ (l:List Nat),(∀ x∈l,0<cv d x/\cv d x<32)->(dq d l).length<=8*l.length
 | [],_=>aU _
 | x::l,h=>by
  have:=gp l fun y hy=>h y (.tail _ hy);have h2:=sR (h x (.head _));unfold dq at this ⊢;refine aa (List.flatMap_cons ..) (aa (ai ..) (aa (aR ..) ?_));exact Ia this h2
theorem vB {d:List Nat}{x:Nat}(hx:x<d.length) (h:0<cv d x/\cv d x<32):∀ r∈yu d x,eE d r:=by
 intro r hr;unfold yu at hr;rw [lf] at hr;refine aB (aX.mp hr) fun l hl Q0=>?_;subst Q0;exact ⟨x,_,rfl,bU hx,fun v hv=>(qs ⟨_,h.2⟩ (bg.mp h.1)).1 l hl v hv⟩
theorem yt {d:List Nat}{x:Nat}{a:cI}(h:0<cv d x/\cv d x<32) (hv:0<=a.getD x 0/\a.getD x 0<8) (hm:∀ r∈yu d x,fC r a=true):a.getD x 0∈bk (cv d x):=by
 refine be (kf hv) fun v e=>?_;refine aa (e ..) ?_;refine (qs ⟨_,h.2⟩ (bg.mp h.1)).2 v fun l hl=>?_;have:=hm (M2 (x:Nat) l) (by unfold yu;refine aa (lf ..) ?_;exact aX.mpr ⟨l,hl,rfl⟩);refine aa (aH (e ..)) ?_;exact this
theorem DR {a b:Nat}(h:a<32) (h2:b<32):a ||| b<32:=Nat.or_lt_two_pow (n:=5) h h2
theorem jB {d:List Nat}(l:List Nat) (h:∀ x∈l,cv d x<32):c8 d l<32/\∀ x∈l,∀ v∈bk (cv d x),v∈bk (c8 d l):=by
 have:=fy (f:=fun m x=>m ||| cv d x) (b:=0) (P:=fun done m=>(∀ x∈done,cv d x<32)->m<32/\∀ x∈done,∀ v∈bk (cv d x),v∈bk m) (fun ζ=>⟨by decide,fun ζ h=>by cases h⟩) (fun done x m ih h=>?_) l
 ·exact this h
 ·refine bl (ih fun y hy=>h y (aT _ hy)) fun h1 h2=>?_;have hx:=h x (by simp);refine ⟨DR h1 hx,fun y hy v hv=>?_⟩;rcases aN.mp hy with hy | hy
  ·exact AO ⟨m,h1⟩ ⟨_,hx⟩ v (aT _ (h2 y hy v hv))
  ·rw [an.mp hy] at hv;exact AO ⟨m,h1⟩ ⟨_,hx⟩ v (List.mem_append_right _ hv)
noncomputable def i5 (A:List cI) (k:Nat):Prop:=∀ a∈A,∀ x,x<k->0<=a.getD x 0/\a.getD x 0<8
theorem xg {C:Cs}{A:List cI}{d:List Nat}(hA:∀ a∈A,eC C a) (hB:i5 A d.length) (hx:∀ x∈C.taken,x<d.length) (hd:∀ x∈C.taken,0<cv d x/\cv d x<32):d7 A (dq d C.taken) (nl C.n .le (bk (c8 d C.taken)).length):=by
 intro a ha h;have hm:=hA a ha;unfold eC at hm;refine aa (dR ..) (aa (aH (hm ..)) ?_);refine aA (Int.ofNat_le.mpr (oT fun v hv=>?_));refine aB (aX.mp hv) fun x hxm Q0=>?_;subst Q0;exact (jB C.taken fun y hy=>(hd y hy).2).2 x hxm _ (yt (hd x hxm) (hB a ha x (hx x hxm)) fun r hr=>h r (List.mem_flatMap.mpr ⟨x,hxm,hr⟩))
theorem rQ (d l:List Nat):(dj d l).length<=(dU d l).length:=by
 have h:=j0 d l;have:=gR (m:=(dU d l).map (jI d)) h.1 fun v hv=>?_
 ·rwa [ah,ah] at this
 ·refine aB (aX.mp hv) fun x hx Q0=>?_;subst Q0;exact aX.mpr ⟨x,h.2.1 x hx,rfl⟩
noncomputable def MP (C:Cs) (d:List Nat) (b:Nat) (m:Nat):Option Nat->aL
 | none=>[(T "self",.own 11),(T "store",.own 2),(T "fixed",.lst ((iS C d).map bn)),(T "firsts",.lst ((j1 C d).map bn)),(T "most",.int (dL d C.taken)),(T "every",cb m),(T "reasons",.own b)]
 | some x=>[(T "self",.own 11),(T "store",.own 2),(T "fixed",.lst ((iS C d).map bn)),(T "firsts",.lst ((j1 C d).map bn)),(T "most",.int (dL d C.taken)),(T "every",cb m),(T "reasons",.own b),(T "x",aO x)]
section
variable {n:Nat}{Z:ag}{w:b8}{C:Cs}{A:List cI}(H:SH w Z) (W:Ws w) (G:AN C Z) (O:i7 C w) (hf:w.failed=false) (hA:∀ a∈A,eC C a) (hB:i5 A w.doms.length)
include W O
theorem jX:∀ r∈iS C w.doms,eE w.doms r:=by
 intro r hr;refine aB (aX.mp hr) fun x hx Q0=>?_;subst Q0;refine bl (aV.mp hx) fun hx1 hx2=>?_;have hl:=O.x x hx1;have hm:=W.m hl;exact eE.at (bU hl) fun v hv=>aA (xn ⟨_,hm.2⟩ (bg.mp hm.1) hx2 v hv)
theorem mW:∀ r∈dq w.doms C.taken,eE w.doms r:=by
 intro r hr;refine aB (List.mem_flatMap.mp hr) fun x hx hr=>?_;exact vB (O.x x hx) (W.m (O.x x hx)) r hr
include H G
theorem gM:cV (n+2) 412 [.own 11,.own 2] Z=some (.tup [.lst ((iS C w.doms).map bn),.lst ((j1 C w.doms).map bn),.int (dL w.doms C.taken)],Z):=by
 refine aa (mO H W G O ..) ?_;unfold iS j1;refine aa (List.map_map ..) (aa (List.map_map ..) ?_);rfl
include hf hA hB
theorem lq:Ends (n+7) 419 [.own 11,.own 2] Z (m6 A w Z (eF w.doms (nl C.n .le (dL w.doms C.taken))/\eF w.doms (nl C.n .le (bk (c8 w.doms C.taken)).length))):=by
 show ∃ u Z',cL false Z (cB (bD (n+6)) 200 [(T "self",.own 11),(T "store",.own 2)] Z (bm 25 4))=some (u,Z')/\_;have hl4:=O.len;have hl:(C.taken.map aO).length<=lim:=aI (jJ hl4);have hd:∀ x∈C.taken,0<cv w.doms x/\cv w.doms x<32:=fun x hx=>W.m (O.x x hx);have H0:∀ {L:List cR},SH w (Z++[.lst (L.map bn)]):=fun {L}=>gr H (bw (fun ζ=>rfl) L);have G0':∀ {c:Cell},AN C (Z++[c]):=G.app;have fl:(dU w.doms C.taken).length<=C.taken.length:=List.length_filter_le _ _;have gl:=rQ w.doms C.taken;have sl:=gp C.taken hd;refine AP H (bu rfl (m5 G rfl rfl rfl (ap (v:=.own 2) rfl b0) (gM H W G O)) (fR rfl) (bu rfl (v:=.tup [cb 0,.own Z.length]) (Z1:=Z++[.lst (([]:List cR).map bn)]) rfl (ρ':=MP C w.doms Z.length 0 none) rfl (dg rfl rfl (j3 G0' rfl rfl rfl) (cj hl) ?_)));refine cm (enc:=aO) (fun r ρ Z'=>∃ o done,ρ=MP C w.doms Z.length (c8 w.doms done) o/\Z'=Z++[.lst ((dq w.doms done).map bn)]/\done++r=C.taken) ⟨none,[],rfl,rfl,rfl⟩ ?_ ?_
 ·intro ρ;intro _;intro Q0;refine bG (Q0) fun o done Q1 Q2 e=>?_;clear Q0;subst Q1;subst Q2;rw [List.append_nil] at e;subst e;have b5:=i9 (jB (d:=w.doms) C.taken fun x hx=>(hd x hx).2).1;refine bQ (dK (n:=n) (x:=C.n) (s:=.le) (k:=dL w.doms C.taken) (u:=.lst ((iS C w.doms).map bn)) (H0 (L:=dq w.doms C.taken)) W hf rfl (by unfold dL;exact HY hl4 fl gl) O.n (by unfold iS;refine aa (ah ..) ?_;exact HX hl4 fl) (jX W O) (zA hA)) fun ζ Z1 e1 Q3=>?_;refine bK (Q3) fun ok1 wc Q4 H1 F1 U1=>?_;clear Q3;subst Q4;have s1:∀ {N:Nat}{p p2 p3 p4 p5 p6 p9 p10 p11:Pos}{z z2:Nat},ev (bD (n+6)) (N+10) (MP C w.doms Z.length (c8 w.doms C.taken) o) (Z++[.lst ((dq w.doms C.taken).map bn)]) (.Call (.Attribute (.Name (T "store") p) (T "strike") p2) [.Tuple [.Attribute (.Name (T "self") p3) (T "n") p4,.Constant (.str (T "<=")) z p5,.Name (T "most") p6] z2 p9,.Name (T "fixed") p10] [] p11)=some (.bool ok1,Z1):=by
   intros
   exact dO H0 (bz o rfl fun ζ=>rfl) rfl rfl (ap (cf (ap (v:=aO C.n) (j3 G0' (bz o rfl fun ζ=>rfl) rfl rfl) (ap (v:=.str (T "<=")) rfl (am (v:=.int (dL w.doms C.taken)) (bz o rfl fun ζ=>rfl))))) (am (v:=.lst ((iS C w.doms).map bn)) (bz o rfl fun ζ=>rfl))) e1
  have fr1:∀ i,i<Z.length->i≠1->i≠3->i≠4->i≠5->i≠w.kM->i≠w.kN->Z1[i]?=Z[i]?:=fun i hi h1 h3 h4 h5 hM hN=>(F1.at' i h1 h3 h4 h5 hM hN).trans (fg hi)
  induction ok1 using Oz with
  | false =>
   exact bo rfl (fP (d:=false) (d':=false) s1 nofun fun ζ=>⟨rfl,rfl⟩) ⟨false,wc,rfl,H1,U1.fail,by refine aa (F1.len ..) (aa (ez ..) ?_);exact y7,fr1⟩
  | true =>
   have hsl:Z.length<(Z++[Cell.lst ((dq w.doms C.taken).map bn)]).length:=by refine aa (ez ..) ?_;exact Nat.lt_succ_self _
   have hM:=bj H.m;have hN:=bj H.n;have h2:=bj H.t;have hcell:Z1[Z.length]?=some (.lst ((dq w.doms C.taken).map bn)):=(F1.at' Z.length (HW h2) (HV h2) (HU h2) (HT h2) (BG hM) (BG hN)).trans bJ;have G1:AN C Z1:=G0'.fr W.toWk F1;refine bQ (dK (n:=n) (x:=C.n) (s:=.le) (k:=(bk (c8 w.doms C.taken)).length) (u:=.own Z.length) H1 U1.ws U1.fl (cD hcell) (HS b5) (by exact aa (iQ U1 ..) (O.n)) (HQ hl4 sl) (fun r hr=>U1.gd.hold (mW W O r hr)) (xg hA hB O.x hd)) fun ζ Z2 e2 Q5=>?_;refine bK (Q5) fun ok2 wa Q6 H2 F2 U2=>?_;clear Q5;subst Q6;have U12:=U1.seq U2 (S'':=eF w.doms (nl C.n .le (bk (c8 w.doms C.taken)).length)) (fun e=>by exact aa (e ..) (by rfl));have F12:=U1.fr F1 F2;have sz:cV (n+6) 54 [cb (c8 w.doms C.taken)] Z1=some (.int (bk (c8 w.doms C.taken)).length,Z1):=by
    have he:=(jB (d:=w.doms) C.taken fun x hx=>(hd x hx).2).1;refine (yv H1.ok (lR he)).trans ?_;exact aa ((gA ⟨_,he⟩).2.1 ..) rfl
   refine bo rfl (fP (d:=true) (d':=ok2) s1 (fun ζ=>dO H1 (bz o rfl fun ζ=>rfl) rfl rfl (ap (cf (ap (v:=aO C.n) (j3 G1 (bz o rfl fun ζ=>rfl) rfl rfl) (ap (v:=.str (T "<=")) rfl (am (bx (a:=54) (bz o rfl fun ζ=>rfl) (am (v:=cb (c8 w.doms C.taken)) (bz o rfl fun ζ=>rfl)) sz))))) (am (v:=.own Z.length) (by exact bz o rfl fun ζ=>rfl))) e2) fun h=>nomatch h) ⟨ok2,wa,rfl,H2,U12,by refine aa (F12.len ..) (aa (ez ..) ?_);exact y7,fun i hi h1 h3 h4 h5 hM hN=>(F12.at' i h1 h3 h4 h5 hM hN).trans (fg hi)⟩
 ·intro x;intro r;intro ρ;intro _;intro Q7;refine bG (Q7) fun o done Q8 Q9 e=>?_;clear Q7;subst Q8;subst Q9;have hxm:x∈C.taken:=by refine aa (aH (e ..)) ?_;simp
  have hx:=O.x x hxm;have dsub:∀ y∈done,y∈C.taken:=fun y hy=>by refine aa (aH (e ..)) ?_;exact aT _ hy
  have dl:done.length<=4:=by have:=congrArg List.length e;rw [ai] at this;exact HP hl4 this
  have he:=(jB (d:=w.doms) done fun y hy=>(hd y (dsub y hy)).2).1;have sl:=gp done fun y hy=>hd y (dsub y hy);have en:c8 w.doms (done++[x])=c8 w.doms done ||| cv w.doms x:=by unfold c8;refine aa (List.foldl_append ..) ?_;rfl
  have jn:cV (n+6) 106 [cb (c8 w.doms done),cb (cv w.doms x)] (Z++[.lst ((dq w.doms done).map bn)])=some (cb (c8 w.doms (done++[x])),Z++[.lst ((dq w.doms done).map bn)]):=by
   refine (yA H0.ok (by have:=nJ he;have:=nJ (hd x hxm).2;exact HO ‹_› this)).trans ?_;refine aa (zC ⟨_,he⟩ ⟨_,(hd x hxm).2⟩ ..) (aa (en ..) ?_);rfl
  have sm:(yu w.doms x).length<=8:=sR (hd x hxm);refine ⟨MP C w.doms Z.length (c8 w.doms done) (some x),by induction o using Oy<;>rfl,bu rfl (bx rfl (ap rfl (am (dO H0 rfl rfl rfl (am rfl) (jO H0 W (bU hx))))) jn) (ρ':=MP C w.doms Z.length (c8 w.doms (done++[x])) (some x)) rfl (cJ rfl (c9 (k:=Z.length) rfl bJ (am (bx rfl (ap (v:=aO x) rfl (am (dO H0 rfl rfl rfl (am rfl) (jO H0 W (bU hx))))) (yr H0.ok (hd x hxm)))) bJ (aI (HN dl sl)) (pX rfl (aI (by have:=sm;unfold yu jI at this;exact HM this)))) (aY ⟨some x,done++[x],rfl,?_,by refine aa (List.append_assoc ..) ?_;exact e⟩))⟩;refine aa (eP ..) (aa (aH (aK ..)) ?_);unfold dq;refine aa (List.flatMap_append ..) (aa (List.flatMap_singleton ..) ?_);rfl
end
theorem AR {Z:ag}{a b:Bool}:mj Z .Eq (.bool a) (.bool b)=some (decide (a=b)):=by
 show u9 (.bool a) (.bool b)=_;unfold u9;refine aa (if_pos ⟨rfl,rfl⟩ ..) ?_
 induction a using Oz<;>induction b using Oz<;>rfl
noncomputable def Dj (xs:List Nat) (ks:List Int) (old:Bool) (rs:List cR):Option Nat->Option Int->aL
 | none,_=>[(T "self",.own 11),(T "store",.own 2),(T "opened",.lst (xs.map aO)),(T "known",.lst (ks.map .int)),(T "are_old",.bool old),(T "reasons",.lst (rs.map bn))]
 | some x,none=>[(T "self",.own 11),(T "store",.own 2),(T "opened",.lst (xs.map aO)),(T "known",.lst (ks.map .int)),(T "are_old",.bool old),(T "reasons",.lst (rs.map bn)),(T "x",aO x)]
 | some x,some v=>[(T "self",.own 11),(T "store",.own 2),(T "opened",.lst (xs.map aO)),(T "known",.lst (ks.map .int)),(T "are_old",.bool old),(T "reasons",.lst (rs.map bn)),(T "x",aO x),(T "v",.int v)]
theorem jb {n:Nat}{Z:ag}{m:Nat}(ho:dI Z) (h:m<32):cV (n+1) 75 [cb m] Z=some (.lst ((bk m).map .int),Z):=by
 have l:=nJ h;have s:=tG h;have e:=gA ⟨m,h⟩;have:=t8 (n:=n) ho (d:=iv m) ⟨by exact HL l,fun p hp=>by have:=s p hp;exact HK this⟩ (by refine aa (e.1 ..) ?_;have:=e.2.2.1;dsimp only at this ⊢;exact HJ this);rw [e.1] at this;exact this
theorem qF {m:Nat}(h:m<32) {v:Int}(hv:v∈bk m):0<=v/\v<8:=by have:=(tH ⟨m,h⟩).2.2 v hv;exact HI this
noncomputable def uU (d:List Nat) (xs:List Nat) (ks:List Int) (old:Bool):Prop:=∀ x∈xs,∀ v∈bk (cv d x),decide (v∈ks)=old->eF d (nl x .ne v)
section
variable {n:Nat}{Z:ag}{w:b8}{A:List cI}(H:SH w Z) (W:Ws w) (hf:w.failed=false)
include H W hf
theorem lr {xs:List Nat}{ks:List Int}{old:Bool}{rs:List cR}(hx:∀ x∈xs,x<w.doms.length) (hxl:xs.length<=4) (hrl:rs.length<=900) (hH:∀ r∈rs,eE w.doms r) (hF:∀ x∈xs,∀ v,decide (v∈ks)=old->d7 A rs (nl x .ne v)) :
  Ends (n+7) 431 [.own 11,.own 2,.lst (xs.map aO),.lst (ks.map .int),.bool old,.lst (rs.map bn)] Z (m6 A w Z (uU w.doms xs ks old)):=by
 show ∃ u Z',cL false Z (cB (bD (n+6)) 200 (Dj xs ks old rs none none) Z (bm 25 6))=some (u,Z')/\_;refine gf (P:=m6 A w Z (uU w.doms xs ks old)) (show Xs _ _ _ _ _ (iu A w Z (uU w.doms xs ks old)) from ?_);refine dg rfl rfl rfl (bB (aI (jJ hxl))) ?_;refine cm (enc:=aO) (fun r ρ Z'=>∃ o q w' done,ρ=Dj xs ks old rs o q/\SH w' Z'/\Fr w Z Z'/\Out A w (uU w.doms done ks old) true w'/\done++r=xs) ⟨none,none,w,[],rfl,H,Fr.refl,Out.refl W hf (fun ζ h=>nomatch h),rfl⟩ ?_ ?_
 ·intro ρ;intro Z';intro Q0;refine xx (Q0) fun o q w' done Q1 H' F' U e=>?_;clear Q0;subst Q1;rw [List.append_nil] at e;subst e;exact bo (v:=.bool true) rfl (rfl) (iu.mk' H' F' U)
 ·intro x;intro r;intro ρ;intro Z';intro Q2;refine xx (Q2) fun o q w' done Q3 H' F' U e=>?_;clear Q2;subst Q3;have hxm:x∈xs:=by refine aa (aH (e ..)) ?_;simp
  have hx':x<w'.doms.length:=by refine aa (iQ U ..) ?_;exact hx x hxm
  have hm:=U.ws.m hx';have bnd:∃ q',b6 (.Name (T "x") default) (aO x) (Dj xs ks old rs o q)=some (Dj xs ks old rs (some x) q'):=by
   induction o using Oy with
   | none=>exact ⟨none,rfl⟩
   | some o=>induction q using Oy with
    | none=>exact ⟨none,rfl⟩
    | some v=>exact ⟨some v,rfl⟩
  refine be bnd fun q' bnd=>?_;refine ⟨_,bnd,dg rfl rfl (bx (a:=75) (bz q' rfl fun ζ=>rfl) (am (dO H' (bz q' rfl fun ζ=>rfl) rfl rfl (am (v:=aO x) (bz q' rfl fun ζ=>rfl)) (jO H' U.ws (bU hx')))) (jb H'.ok hm.2)) (bB (aI (by have:=i9 hm.2;exact Bz this))) ?_⟩;refine cm (enc:=V.int) (fun s ρ Z2=>∃ q wa dn,ρ=Dj xs ks old rs (some x) q/\SH wa Z2/\Fr w' Z' Z2/\Out A w' (∀ v∈dn,decide (v∈ks)=old->eF w'.doms (nl x .ne v)) true wa/\dn++s=bk (cv w'.doms x)) ⟨q',w',[],rfl,H',Fr.refl,Out.refl U.ws U.fl (fun ζ h=>nomatch h),rfl⟩ ?_ ?_
  ·intro ρ;intro Z2;intro Q4;refine fX (Q4) fun q wa dn Q5 H2 F2 U2 e2=>?_;clear Q4;subst Q5;rw [List.append_nil] at e2;subst e2;have:=U.seq U2 (S'':=∀ v∈bk (cv w.doms x),decide (v∈ks)=old->eF w.doms (nl x .ne v)) (fun e=>by exact aa (e ..) (by rfl))
   exact aY ⟨some x,q,wa,done++[x],rfl,H2,U.fr F' F2,this.iff ⟨fun h y hy=>by
    rcases aN.mp hy with hy | hy
    ·exact h.1 y hy
    ·refine aa (an.mp hy ..) ?_;exact h.2,fun h=>⟨fun y hy=>h y (aT _ hy),h x (by simp)⟩⟩,by refine aa (List.append_assoc ..) ?_;exact e⟩
  ·intro v;intro s;intro ρ;intro Z2;intro Q6;refine fX (Q6) fun q wa dn Q7 H2 F2 U2 e2=>?_;clear Q6;subst Q7;have hvm:v∈bk (cv w'.doms x):=by refine aa (aH (e2 ..)) ?_;simp
   refine ⟨Dj xs ks old rs (some x) (some v),by induction q using Oy<;>rfl,?_⟩;have tst:∀ {N:Nat}{p p2 p3 p4 p5:Pos},ev (bD (n+6)) (N+3) (Dj xs ks old rs (some x) (some v)) Z2 (.Compare (.Compare (.Name (T "v") p) [.In] [.Name (T "known") p2] p3) [.Eq] [.Name (T "are_old") p4] p5)=some (.bool (decide (decide (v∈ks)=old)),Z2):=by
    intros
    exact bq (bq rfl rfl (MN (d:=decide (v∈ks)) rfl ⟨rfl,rfl⟩ (cH (fun ζ=>rfl) _) (eR (fun ζ=>rfl) _) (by rw [decide_eq_true_iff,jq]))) rfl AR
   by_cases hc:decide (v∈ks)=old
   ·refine bQ (dK (n:=n) (x:=x) (s:=.ne) (k:=v) (u:=.lst (rs.map bn)) H2 U2.ws U2.fl rfl (qF hm.2 hvm) (by exact aa (iQ U2 ..) (hx')) hrl (fun r hr=>U2.gd.hold (U.gd.hold (hH r hr))) (hF x hxm v hc)) fun ζ Z3 e3 Q8=>?_;refine bK (Q8) fun ok we Q9 H3 F3 U3=>?_;clear Q8;subst Q9;have U23:=U2.seq U3 (S'':=eF w'.doms (nl x .ne v)) (fun e=>by exact aa (e ..) (by rfl));refine bW rfl (fP (d:=true) (d':=!ok) (aa (tst ..) (aa (aA hc ..) (by rfl))) (fun ζ=>di (dO H2 rfl rfl rfl (ap (cf (ap rfl (ap rfl (am rfl)))) (am rfl)) e3)) fun h=>nomatch h) (fun h=>?_) fun h=>?_
    ·induction ok using Oz with
     | true=>exact aM h
     | false =>
      refine bo rfl rfl (iu.mk' H3 (U.fr F' (U2.fr F2 F3)) ⟨U.gd.trans U23.gd,U23.ws,U23.fl,fun ζ=>⟨(U23.bad rfl).1,fun hh=>?_⟩,fun h=>nomatch h⟩);rcases U.ok rfl with ⟨e4, -⟩ | ⟨-, h4⟩
      ·subst e4;exact (U23.bad rfl).2 ⟨fun u hu hq=>hh x hxm u (by exact aa (aH (e2 ..)) (aT _ hu)) hq,hh x hxm v hvm hc⟩
      ·exact h4 fun y hy=>hh y (by exact aa (aH (e ..)) (aT _ hy))
    ·induction ok using Oz with
     | false=>exact cg h
     | true =>
      exact aY (aY ⟨some v,we,dn++[v],rfl,H3,U2.fr F2 F3,U23.iff ⟨fun h u hu hq=>by
       rcases aN.mp hu with hu | hu
       ·exact h.1 u hu hq
       ·refine aa (an.mp hu ..) ?_;exact h.2,fun h=>⟨fun u hu hq=>h u (aT _ hu) hq,h v (by simp) hc⟩⟩,by refine aa (List.append_assoc ..) ?_;exact e2⟩)
   ·refine bW rfl (d:=false) (fP (d:=false) (d':=false) (aa (tst ..) (aa (decide_eq_false hc ..) (by rfl))) nofun fun ζ=>⟨rfl,rfl⟩) nofun fun ζ=>aY (aY ⟨some v,wa,dn++[v],rfl,H2,F2,U2.iff ⟨fun h u hu hq=>by
     rcases aN.mp hu with hu | hu
     ·exact h u hu hq
     ·rw [an.mp hu] at hq;exact absurd hq hc,fun h u hu hq=>h u (aT _ hu) hq⟩,by refine aa (List.append_assoc ..) ?_;exact e2⟩)
end
noncomputable def sr (C:Cs) (d:List Nat):Prop :=
 if hi (cv d C.n)=(dS C d).length then uU d (fH d C.taken) (dS C d) false
 else if lo (cv d C.n)=dL d C.taken then uU d (fH d C.taken) (dS C d) true else True
noncomputable def eS (C:Cs) (d:List Nat):Prop:=(eF d (nl C.n .ge (eB C d).length)/\(eF d (nl C.n .le (dL d C.taken))/\eF d (nl C.n .le (bk (c8 d C.taken)).length)))/\sr C d
section
variable {c:d8}{n:Nat}{ρ:aL}{Z Z1:ag}{e e':Expr}{es:List Expr}{op:BoolOp}{p:Pos}{d:Bool}
theorem sL (h:ev c n ρ Z e=some (.bool d,Z1)):evb c (n+1) ρ Z op [e]=some (.bool d,Z1):=by
 show (ev c n ρ Z e).bind _=_;refine aa (h ..) ?_;rfl
theorem vk (h:ev c n ρ Z e=some (.bool true,Z1)):evb c (n+1) ρ Z .Or (e::e'::es)=some (.bool true,Z1):=by
 show (ev c n ρ Z e).bind _=_;refine aa (h ..) ?_;rfl
theorem qW (h:ev c n ρ Z e=some (.bool false,Z1)):evb c (n+1) ρ Z .Or (e::e'::es)=evb c n ρ Z1 .Or (e'::es):=by
 show (ev c n ρ Z e).bind _=_;refine aa (h ..) ?_;rfl
theorem oS:ev c (n+1) ρ Z (.BoolOp op es p)=evb c n ρ Z op es:=rfl
end
noncomputable def DE (C:Cs) (d:List Nat) (k:Nat):aL:=([(T "self",V.own 11),(T "store",.own 2),(T "fixed",.lst ((iS C d).map bn)),(T "firsts",.lst ((j1 C d).map bn)),(T "most",.int (dL d C.taken)),(T "known",.lst ((dS C d).map .int)),(T "opened",.lst ((fH d C.taken).map aO))]:aL).take k
section
variable {n:Nat}{Z:ag}{w:b8}{C:Cs}{A:List cI}(H:SH w Z) (W:Ws w) (G:AN C Z) (O:i7 C w) (hf:w.failed=false) (hA:∀ a∈A,eC C a) (hB:i5 A w.doms.length)
include W O
theorem uF:∀ r∈j1 C w.doms,eE w.doms r:=by
 intro r hr;refine aB (aX.mp hr) fun x hx Q0=>?_;subst Q0;exact jX W O _ (aX.mpr ⟨x,(j0 _ _).2.1 x hx,rfl⟩)
include H G hf hA
theorem mP:Ends (n+8) 424 [.own 11,.own 2] Z (m6 A w Z (sr C w.doms)):=by
 show ∃ u Z',cL false Z (cB (bD (n+7)) 200 (DE C w.doms 2) Z (bm 25 5))=some (u,Z')/\_;have hl4:=O.len;have hl:(C.taken.map aO).length<=lim:=aI (jJ hl4);have fl:(dU w.doms C.taken).length<=C.taken.length:=List.length_filter_le _ _;have gl:=rQ w.doms C.taken;have kl:=jU C w.doms;have ll:(j1 C w.doms).length=(dj w.doms C.taken).length:=ah _;have ll':(iS C w.doms).length=(dU w.doms C.taken).length:=ah _;have frl:(fH w.doms C.taken).length<=4:=cU hl4;have hm:=W.m O.n;refine gf (P:=m6 A w Z (sr C w.doms)) (show Xs _ _ _ _ _ (iu A w Z (sr C w.doms)) from ?_);refine bu rfl (m5 G rfl rfl rfl (ap (v:=.own 2) rfl b0) (gM H W G O)) (ρ':=DE C w.doms 5) (fR rfl) ?_;refine bu rfl (v:=.lst ((dS C w.doms).map .int)) ((cN (enc:=bn) (as:=j1 C w.doms) (g:=fun l=>if true then [V.int l.k] else []) rfl (bB (aI (BA hl4 fl gl ll))) (fun l ζ=>ce (d:=true) rfl kD fun ζ=>bI rfl rfl rfl rfl eI (k:=2) rfl rfl) rfl).trans (by refine aa (e6 ..) ?_;unfold j1 dS;refine aa (List.map_map ..) (aa (List.map_map ..) ?_);rfl)) (ρ':=DE C w.doms 6) rfl ?_;refine bu rfl (v:=.lst ((fH w.doms C.taken).map aO)) ((cN (enc:=aO) (as:=C.taken) (g:=fun x=>if !tD w.doms x then [aO x] else []) (j3 G rfl rfl rfl) (cj hl) (fun x hx=>ce (d:=!tD w.doms x) rfl (fG (di (dO H rfl rfl rfl (am rfl) (lm H W (bU (O.x x hx)))))) fun ζ=>rfl) rfl).trans (by refine aa (bV ..) ?_;rfl)) (ρ':=DE C w.doms 7) rfl ?_;have nn:∀ {N:Nat}{p p2:Pos},ev (bD (n+7)) (N+2) (DE C w.doms 7) Z (.Attribute (.Name (T "self") p) (T "n") p2)=some (aO C.n,Z):=j3 G rfl rfl rfl;have ek:∀ {N:Nat}{p p2 p3:Pos},ev (bD (n+7)) (N+3) (DE C w.doms 7) Z (.Call (.Name (T "len") p) [.Name (T "known") p2] [] p3)=some (.int (dS C w.doms).length,Z):=(cW (i:= "len") rfl (am rfl) (cG rfl (aI (BA hl4 fl gl kl)))).trans (aa (ah ..) (by rfl));have hfx:∀ x∈fH w.doms C.taken,x<w.doms.length:=fun x hx=>O.x x (aV.mp hx).1;refine bW rfl (d:=decide (hi (cv w.doms C.n)=(dS C w.doms).length)) (bq (dO H rfl rfl rfl (am nn) (oh H W (bU O.n))) ek dG) (fun h=>?_) fun h=>aY ?_
 ·have h:=ao h;obtain ⟨_,Z',e1,ok,w',rfl,H',F',U⟩:=lr (n:=n) (A:=A) (xs:=fH w.doms C.taken) (ks:=dS C w.doms) (old:=false) (rs:=j1 C w.doms++[nl C.n .le (dS C w.doms).length]) H W hf hfx frl (by refine aa (ai ..) (aa (aE ..) ?_);exact HH hl4 fl gl ll) (fun r hr=>by
   rcases aN.mp hr with hr | hr
   ·exact uF W O r hr
   ·refine aa (an.mp hr ..) ?_;exact eE.at (bU O.n) fun v hv=>aA (h▸(nB hm v hv).2)) (fun x hx v hv=>BU hA (aV.mp hx).1 (of_decide_eq_false hv))
  refine bu rfl (v:=.lst ((j1 C w.doms++[nl C.n .le (dS C w.doms).length]).map bn)) (cF rfl (fI (am (cf (ap nn (ap rfl (am ek))))) rfl) (mE (f:=bn) (a:=j1 C w.doms) (b:=[nl C.n .le (dS C w.doms).length]) (BA hl4 fl gl ll) (by simp))) rfl (bo rfl (m5 G rfl rfl rfl (ap (v:=.own 2) rfl (ap rfl (ap rfl (ap rfl (am rfl))))) e1) (iu.mk' H' F' (U.iff (by unfold sr;exact aa (if_pos h ..) (by rfl)))))
 ·have h:=of_decide_eq_false h;refine bW rfl (d:=decide (lo (cv w.doms C.n)=dL w.doms C.taken)) (bq (dO H rfl rfl rfl (am nn) (rk H W (bU O.n))) rfl dG) (fun h2=>?_) fun h2=>aY ?_
  ·have h2:=ao h2;obtain ⟨_,Z',e1,ok,w',rfl,H',F',U⟩:=lr (n:=n) (A:=A) (xs:=fH w.doms C.taken) (ks:=dS C w.doms) (old:=true) (rs:=iS C w.doms++[nl C.n .ge (dL w.doms C.taken)]) H W hf hfx frl (by refine aa (ai ..) (aa (aE ..) ?_);exact HF hl4 fl ll') (fun r hr=>by
    rcases aN.mp hr with hr | hr
    ·exact jX W O r hr
    ·refine aa (an.mp hr ..) ?_;exact eE.at (bU O.n) fun v hv=>aA (h2▸(nB hm v hv).1)) (fun x hx v hv=>BS hA hx (ao hv))
   exact bo rfl (m5 G rfl rfl rfl (ap (v:=.own 2) rfl (ap rfl (ap rfl (ap (v:=.bool true) rfl (am (cF rfl (fI (am (cf (ap nn (ap rfl (am rfl))))) rfl) (mE (f:=bn) (a:=iS C w.doms) (b:=[nl C.n .ge (dL w.doms C.taken)]) (HE hl4 fl ll') (by simp)))))))) e1) (iu.mk' H' F' (U.iff (by unfold sr;exact aa (if_neg h ..) (aa (if_pos h2 ..) (by rfl)))))
  ·have h2:=of_decide_eq_false h2;exact bo rfl rfl (iu.mk' H Fr.refl (Out.refl W hf (by unfold sr;refine aa (if_neg h ..) (aa (if_neg h2 ..) ?_);trivial)))
end
noncomputable def Bj:Option Int->aL
 | none=>[(T "self",.own 11),(T "store",.own 2)]
 | some m=>[(T "self",.own 11),(T "store",.own 2),(T "mark",.int m)]
noncomputable def Nz:Expr×List Stmt×Pos:=match (bm 25 1)[0]? with | some (Stmt.While t b _ p)=>(t,b,p) | _=>(default,[],default)
section
variable {n:Nat}{Z:ag}{w:b8}{C:Cs}{A:List cI}(G:AN C Z) (O:i7 C w) (hA:∀ a∈A,eC C a) (hB:i5 A w.doms.length)
include G O hA hB
theorem yX:∀ (k:Nat) (w':b8) (Z':ag) (m:Option Int) (N:Nat),wt w'.doms<=k->SH w' Z'->Fr w Z Z'->Gd A w w'->Ws w'->w'.failed=false->Wk w->(w'=w\/¬eS C w.doms) ->
    Wh (bD (n+8)) (N+k+30) (Bj m) Z' Nz.1 Nz.2.1 Nz.2.2 (fun fl ρ Z2=>∃ ok wa,fl=.ret (.bool ok)/\SH wa Z2/\Fr w Z Z2/\sF A w (eS C) ok wa):=by
  intro k
  induction k with
  | zero | succ k ih =>
    all_goals
      intro w' Z' m N hk H W0 hg W hf hK hst;have G0:=G.fr hK W0;refine bQ (lp (n:=n+1) H W G0 (O.gd hg) hf hA) fun ζ Z1 e1 Q0=>?_;refine bK (Q0) fun ok1 wc Q1 H1 F1 U1=>?_;clear Q0;subst Q1;have fail:∀ {wa:b8}{Z2:ag},SH wa Z2->Fr w' Z' Z2->Out A w' (eS C w'.doms) false wa->∃ ok we,Fl.ret (.bool false)=.ret (.bool ok)/\SH we Z2/\Fr w Z Z2/\sF A w (eS C) ok we:=by
        intro wa Z2 H2 F2 U;refine ⟨false,wa,rfl,H2,hg.fr W0 F2,hg.trans U.gd,U.ws,U.fl,fun ζ=>⟨(U.bad rfl).1,?_⟩,fun h=>nomatch h⟩;rcases hst with rfl | h
        · exact (U.bad rfl).2
        · exact h
      refine wh (d:=true) (rfl) (fun ζ=>?_) fun h=>nomatch h;have el:∀ {N:Nat}{τ:ag}{wa:b8}{m:Option Int}{p p2 p3 p4:Pos},SH wa τ->Ws wa->ev (bD (n+8)) (N+5) (Bj m) τ (.Call (.Name (T "len") p) [.Attribute (.Name (T "store") p2) (T "trail") p3] [] p4)=some (.int wa.tr.length,τ):=fun {N τ wa m} _ _ _ _ H W=>(cW (i:= "len") (by exact bz m rfl fun ζ=>rfl) (am (dX H (by exact bz m rfl fun ζ=>rfl) rfl rfl)) (cG (cD H.t) W.trl)).trans (aa (ah ..) (by rfl));refine bu rfl (el H W) (ρ':=Bj (some w'.tr.length)) (bz m rfl fun ζ=>rfl) ?_;have c1:∀ {N:Nat}{p p2 p3 p4 p5:Pos},ev (bD (n+8)) (N+5) (Bj (some w'.tr.length)) Z' (.UnaryOp .Not (.Call (.Attribute (.Name (T "self") p) (T "bound_below") p2) [.Name (T "store") p3] [] p4) p5)=some (.bool (!ok1),Z1):=di (m5 G0 rfl rfl rfl (ap (v:=.own 2) rfl b0) e1)
      induction ok1 using Oz with
      | false=>exact bW rfl (d:=true) (oS.trans (vk c1)) (fun ζ=>bo rfl rfl (fail H1 F1 (U1.fail.fail))) fun h=>nomatch h
      | true =>
        have G1:=G0.fr W.toWk F1;refine bQ (lq (n:=n+1) H1 U1.ws G1 ((O.gd hg).gd U1.gd) U1.fl hA (by refine aa (U1.gd.len ..) (aa (hg.len ..) ?_);exact hB)) fun ζ Z2 e2 Q2=>?_;refine bK (Q2) fun ok2 wa Q3 H2 F2 U2=>?_;clear Q2;subst Q3;have U12:=U1.seq U2 (S'':=eF w'.doms (nl C.n .le (dL w'.doms C.taken))/\eF w'.doms (nl C.n .le (bk (c8 w'.doms C.taken)).length)) (fun e=>by exact aa (e ..) (by rfl));have F12:=U1.fr F1 F2;have c2:∀ {N:Nat}{p p2 p3 p4 p5:Pos},ev (bD (n+8)) (N+5) (Bj (some w'.tr.length)) Z1 (.UnaryOp .Not (.Call (.Attribute (.Name (T "self") p) (T "bound_above") p2) [.Name (T "store") p3] [] p4) p5)=some (.bool (!ok2),Z2):=di (m5 G1 rfl rfl rfl (ap (v:=.own 2) rfl b0) e2)
        induction ok2 using Oz with
        | false=>exact bW rfl (d:=true) (oS.trans ((qW c1).trans (vk c2))) (fun ζ=>bo rfl rfl (fail H2 F12 U12.fail)) fun h=>nomatch h
        | true =>
          have G2:=G1.fr U1.ws.toWk F2;refine bQ (mP (n:=n) H2 U12.ws G2 ((O.gd hg).gd U12.gd) U12.fl hA) fun ζ Z3 e3 Q4=>?_;refine bK (Q4) fun ok3 we Q5 H3 F3 U3=>?_;clear Q4;subst Q5;have U123:Out A w' (eS C w'.doms) ok3 we:=U12.seq U3 (fun e=>by exact aa (e ..) (by rfl));have F123:=U12.fr F12 F3;have c3:∀ {N:Nat}{p p2 p3 p4 p5:Pos},ev (bD (n+8)) (N+5) (Bj (some w'.tr.length)) Z2 (.UnaryOp .Not (.Call (.Attribute (.Name (T "self") p) (T "bar_values") p2) [.Name (T "store") p3] [] p4) p5)=some (.bool (!ok3),Z3):=di (m5 G2 rfl rfl rfl (ap (v:=.own 2) rfl b0) e3);refine bW rfl (oS.trans ((qW c1).trans ((qW c2).trans (sL c3)))) (fun h=>?_) fun h=>?_
          · induction ok3 using Oz with
            | true=>exact aM h
            | false=>exact bo rfl rfl (fail H3 F123 U123)
          · induction ok3 using Oz with
            | false=>exact cg h
            | true =>
              refine aY (bW rfl (bq (el H3 U123.ws) rfl dG) (fun h=>?_) fun h=>?_)
              · have h:=ao h
                rcases U123.ok rfl with ⟨rfl,hs⟩ | ⟨hlt,hs⟩
                · refine bo rfl rfl ⟨true,we,rfl,H3,hg.fr W0 F123,hg,U123.ws,U123.fl,(fun h=>nomatch h),fun ζ=>⟨hs,fun h=>?_⟩⟩
                  rcases hst with rfl | h'
                  · rfl
                  · exact absurd h h'
                · lia
              · have h:=of_decide_eq_false h
                rcases U123.ok rfl with ⟨rfl,hs⟩ | ⟨hlt,hs⟩
                · exact absurd rfl h
                · have hw:=U123.gd.wt
                  first
                  | (exfalso;exact EN hk hlt hw)
                  | (refine aY (aY (ih we Z3 _ N (EM hk hlt hw) H3 (hg.fr W0 F123) (hg.trans U123.gd) U123.ws U123.fl hK (.inr ?_)))
                     rcases hst with rfl | h'
                     · exact hs
                     · exact h')
theorem DJ (H:SH w Z) (W:Ws w) (hf:w.failed=false):Ends (n+9) 400 [.own 11,.own 2] Z (yc A w Z (eS C)):=by
 show ∃ u Z',cL false Z (cB (bD (n+8)) 200 (Bj none) Z (bm 25 1))=some (u,Z')/\_;refine gf (P:=yc A w Z (eS C)) (show Xs _ _ _ _ _ (mJ A w Z (eS C)) from ?_);have hw:wt w.doms<=100:=by have:=W.tr;exact EL this
 refine i8 rfl ?_;refine cp (yX (n:=n) (w:=w) (Z:=Z) G O hA hB 100 w Z none 69 hw H Fr.refl Gd.refl W hf W.toWk (.inl rfl)) fun fl ρ' Z' h1 Q0=>?_;refine bK (Q0) fun ok wa Q1 H2 F2 U=>?_;clear Q0;subst Q1;exact ⟨_,ρ',Z',h1,mJ.mk' H2 F2 U⟩
end
noncomputable def c2 (C:Addr) (k:Nat) (fs:List (Str×V)):ag:=[.attrs fs,.inst C k]
theorem o4 {Z:ag}{C:Addr}{k:Nat}{fs fs':List (Str×V)}:(Z++c2 C k fs).set Z.length (.attrs fs')=Z++c2 C k fs':=oi (i:=0)
theorem uQ {Z:ag}{C:Addr}{k:Nat}{fs:List (Str×V)}:(Z++c2 C k fs)[Z.length]?=some (.attrs fs):=eL (i:=0)
theorem uP {Z:ag}{C:Addr}{k:Nat}{fs:List (Str×V)}:(Z++c2 C k fs)[Z.length+1]?=some (.inst C k):=eL (i:=1)
theorem yM {Z:ag}{C:Addr}{k:Nat}{fs:List (Str×V)}{x:Str}{v:V}(h:eX v=false) (h2:fs.length<=400):oj (Z++c2 C k fs) Z.length x v=some (Z++c2 C k (st x v fs)):=by
 unfold oj;refine aa (uQ ..) ?_;show (if !eX v&&decide (fs.length<=400) then some ((Z++c2 C k fs).set Z.length (.attrs (st x v fs))) else none)=_;refine aa (h ..) (aa (aA h2 ..) (aa (o4 ..) ?_));rfl
theorem oa (x:Str) (v:V):∀ fs:List (Str×V),(st x v fs).length<=fs.length+1
 | []=>aU _
 | a::t=>by
  have:=oa x v t;unfold st
  split
  ·simp
  ·simp only [aR];exact NF this
theorem pK {Z:ag}{C:Addr}{k:Nat}:∀ {l:List (Str×V)}{fs:List (Str×V)},(∀ p∈l,eX p.2=false)->fs.length+l.length<=400->kr Z.length l (Z++c2 C k fs)=some (Z++c2 C k (l.foldl (fun fs p=>st p.1 p.2 fs) fs))
 | [],_,_,_=>rfl
 | (x,v)::r,fs,h,h2=>by
  show (oj (Z++c2 C k fs) Z.length x v).bind (kr Z.length r)=_;rw [aR] at h2;refine aa (yM (h (x,v) (.head _)) (Kg h2) ..) ?_;have key:=oa x v fs;exact pK (fs:=st x v fs) (fun p hp=>h p (.tail _ hp)) (Kf h2 key)
theorem Bd {n:Nat}{Z:ag}{C:Addr}{t:List V}{kind:Str}(hC:iX C (T "number")=true/\iX C (T "scope")=true/\iX C (T "strength")=true) (ht:t.length<=lim) :
  cV (n+1) 295 [.own (Z.length+1),.tup t,.str kind] (Z++c2 C Z.length [])=some (.none,Z++c2 C Z.length [(T "number",.int (-1)),(T "scope",.tup t),(T "strength",.str kind)]):=by
 show cL true _ (cB (bD n) 200 [(T "self",.own (Z.length+1)),(T "scope",.tup t),(T "strength",.str kind)] _ (bm 21 0))=_;have key:Xs (bD n) 200 [(T "self",.own (Z.length+1)),(T "scope",.tup t),(T "strength",.str kind)] (Z++c2 C Z.length []) (bm 21 0) (fun fl ζ Z'=>jK fl=.none/\Z'=Z++c2 C Z.length [(T "number",.int (-1)),(T "scope",.tup t),(T "strength",.str kind)]):=by
  refine bu rfl (v:=.int (-1)) rfl (i4 (k:=Z.length+1) rfl uP uQ hC.1 rfl (by simp)) ?_;refine aa (o4 ..) ?_;refine bu rfl (v:=.tup t) (fj (i:= "tuple") rfl (am rfl) (if_pos ht)) (i4 (k:=Z.length+1) rfl uP uQ hC.2.1 rfl (by simp [st])) ?_;refine aa (o4 ..) ?_;refine bu rfl (v:=.str kind) rfl (i4 (k:=Z.length+1) rfl uP uQ hC.2.2 rfl (af (oa _ _ _) (af (Nat.succ_le_succ (oa _ _ _)) (by simp)))) ?_;refine aa (o4 ..) ?_;exact aY ⟨rfl,rfl⟩
 refine dm key fun fl ρ' Z' h1 h2 Q0=>?_;clear key;subst Q0;refine aa (h1 ..) (aa (aH (h2 ..)) ?_);rfl
theorem uE {Z:ag}{C:Addr}{fs:List (Str×V)}:lU (Z++c2 C Z.length fs) C Z.length=true:=by
 unfold lU;refine aa (uP ..) ?_;simp
theorem ny {n:Nat}{Z:ag}{C:Addr}{t:List V}{m:V}{kind:Str}{l:List (Str×V)}(hC:iX C (T "number")=true/\iX C (T "scope")=true/\iX C (T "strength")=true) (ht:(t++[m]).length<=lim) (hl:∀ p∈l,eX p.2=false) (hl2:l.length<=100) :
  gw (cV (n+1)) C kind t m l Z=some (.own (Z.length+1),Z++c2 C Z.length (l.foldl (fun fs p=>st p.1 p.2 fs) [(T "number",.int (-1)),(T "scope",.tup (t++[m])),(T "strength",.str kind)])):=by
 unfold gw;refine aa (show bare C Z=Z++c2 C Z.length [] from rfl ..) (aa (Bd hC ht ..) ?_);show (if lU (Z++c2 C Z.length _) C Z.length then _ else none)=_;refine aa (uE ..) (aa (pK hl (by simp;exact Ke hl2) ..) ?_);rfl
theorem vL {n:Nat}{Z:ag}{C:Cs}(hl:C.taken.length<=4):cV (n+2) 375 [.tup (C.taken.map aO),.int C.value,aO C.n] Z=some (.own (Z.length+1),Z++c2 375 Z.length (yg C)):=by
 show (if (C.taken.map aO).length<=lim then gw (cV (n+1)) 375 (T "values") (C.taken.map aO) (aO C.n) [(T "taken",.tup (C.taken.map aO)),(T "value",.int C.value),(T "n",aO C.n)] Z else none)=_;refine aa (if_pos (aI (jJ hl)) ..) (aa (ny ⟨rfl,rfl,rfl⟩ (by simp [lim];exact EK hl) (by intro p hp;simp only [List.mem_cons,List.not_mem_nil,or_false] at hp;rcases hp with rfl | rfl | rfl<;>rfl) (by simp) ..) ?_);unfold yg;refine aa (aK ..) ?_;rfl
theorem DL {n:Nat}{Z:ag}{C:Cs}(hl:C.taken.length<=4):cV (n+2) 448 [.tup (C.taken.map aO),aO C.n] Z=some (.own (Z.length+1),Z++c2 448 Z.length (yf C)):=by
 show (if (C.taken.map aO).length<=lim then gw (cV (n+1)) 448 (T "weak") (C.taken.map aO) (aO C.n) [(T "taken",.tup (C.taken.map aO)),(T "n",aO C.n)] Z else none)=_;refine aa (if_pos (aI (jJ hl)) ..) (aa (ny ⟨rfl,rfl,rfl⟩ (by simp [lim];exact EK hl) (by intro p hp;simp only [List.mem_cons,List.not_mem_nil,or_false] at hp;rcases hp with rfl | rfl<;>rfl) (by simp) ..) ?_);unfold yf;refine aa (aK ..) ?_;rfl
theorem qv {c:d8}{n:Nat}{ρ:aL}{Z Z1 Z2:ag}{o u:Expr}{p q:Pos}{l:List V}{v:V}(h:ev c n ρ Z o=some (.tup (l++[v]),Z1)) (h2:ev c n ρ Z1 u=some (.int (-1),Z2)) (h5:(l++[v]).length<=lim):ev c (n+1) ρ Z (.Subscript o (.Slice none (some u) none q) p)=some (.tup l,Z2):=by
 show (ev c n ρ Z o).bind _=_;refine aa (h ..) ?_;show (ev c n ρ Z1 u).bind _=_;refine aa (h2 ..) ?_;show (if (-1:Int)= -1/\(l++[v]).length<=lim/\(l++[v]).isEmpty=false then some (V.tup (l++[v]).dropLast,Z2) else none)=_;exact aa (if_pos ⟨rfl,h5,by simp⟩ ..) (aa (List.dropLast_concat ..) rfl)
theorem C4 {c:d8}{n:Nat}{ρ:aL}{Z Z1 Z2:ag}{o:Expr}{as:List Expr}{p p':Pos}{l:List Int}{i:Int}(h:ev c n ρ Z o=some (.lst (l.map .int),Z1)) (h2:evs c n ρ Z1 as=some ([.int i],Z2)) (hl:l.length<=1000):ev c (n+1) ρ Z (.Call (.Attribute o (T "count") p) as [] p')=some (.int (l.countP (·==i)),Z2):=by
 show (ev c n ρ Z o).bind (fun (v,Z)=>(gx c Z (T "count") v).bind fun t=>(evs c n ρ Z as).bind fun (vs,Z)=>gu c (T "count") vs Z t)=_;refine aa (h ..) ?_;show (evs c n ρ Z1 as).bind _=_;refine aa (h2 ..) ?_;show (if T "count" =Str.ofString "count" /\(l.map V.int).length<=lim then (c7 (l.map V.int)).map fun a=>(V.int (a.countP (·==i)),Z2) else none)=_;refine aa (if_pos ⟨rfl,aI hl⟩ ..) (aa (show c7 (l.map V.int)=some l by simpa using fF id l ..) ?_);rfl
section
variable {n:Nat}{Z:ag}{C:Cs}{vs:List Int}{u:Int}
theorem uf (ho:dI Z) (G:AC C Z) (hl:vs.length<=10):cV (n+1) 365 [.own 11,.tup ((vs++[u]).map .int)] Z=some (.bool (decide ((vs.countP (·==C.value):Int)=u)),Z):=by
 show cL false Z (cB (bD n) 200 [(T "self",.own 11),(T "numbers",.tup ((vs++[u]).map .int))] Z (bm 24 3))=_;have e:(vs++[u]).map V.int=vs.map V.int++[V.int u]:=by refine aa (aK ..) ?_;rfl
 refine aa (e ..) ?_;have ln:(vs.map V.int++[V.int u]).length<=lim:=by refine aa (ai ..) (aa (ah ..) (aa (aE ..) ?_));unfold lim;exact EI hl
 refine bS ho rfl (bo rfl (bq (C4 (l:=vs) (fj (i:= "list") rfl (am (qv rfl rfl ln)) (if_pos (aI (zb hl)))) (am (gB G rfl rfl rfl)) (zb hl)) (bI (k:=vs.length) rfl rfl rfl rfl ln (by refine aa (ai ..) (aa (ah ..) ?_);exact M7) (by refine aa (List.getElem?_append_right (by simp) ..) ?_;simp)) dG) ⟨rfl,rfl⟩)
theorem vG (ho:dI Z) (G:AC C Z):cV (n+1) 372 [.own 11] Z=some (.tup [.str (T "count"),.tup (C.taken.map aO),.int C.value,aO C.n],Z):=by
 show cL false Z (cB (bD n) 200 [(T "self",.own 11)] Z (bm 24 4))=_;exact bS ho (show (dA _ _&&_)=true by refine aa (bw (fun ζ=>rfl) ..) ?_;rfl) (bo rfl (cf (ap rfl (ap (gB G rfl rfl rfl) (ap (gB G rfl rfl rfl) (am (gB G rfl rfl rfl)))))) ⟨rfl,rfl⟩)
theorem vE (ho:dI Z) (G:AN C Z):cV (n+1) 445 [.own 11] Z=some (.tup [.str (T "nvalue"),.tup (C.taken.map aO),aO C.n],Z):=by
 show cL false Z (cB (bD n) 200 [(T "self",.own 11)] Z (bm 25 8))=_;exact bS ho (show (dA _ _&&_)=true by refine aa (bw (fun ζ=>rfl) ..) ?_;rfl) (bo rfl (cf (ap rfl (ap (j3 G rfl rfl rfl) (am (j3 G rfl rfl rfl))))) ⟨rfl,rfl⟩)
noncomputable def NB (vs:List Int) (u:Int) (b:Nat):Option Int->aL
 | none=>[(T "self",.own 11),(T "numbers",.tup (vs.map .int++[.int u])),(T "seen",.own b)]
 | some v=>[(T "self",.own 11),(T "numbers",.tup (vs.map .int++[.int u])),(T "seen",.own b),(T "v",.int v)]
theorem pz (l:List Int):(k4 l).length<=l.length:=gR (jc l).1 fun v hv=>((jc l).2 v).mp hv
theorem uc (ho:dI Z) (hl:vs.length<=10):cV (n+1) 438 [.own 11,.tup ((vs++[u]).map .int)] Z=some (.bool (decide ((xE vs:Int)=u)),Z):=by
 show cL false Z (cB (bD n) 200 [(T "self",.own 11),(T "numbers",.tup ((vs++[u]).map .int))] Z (bm 25 7))=_;have e:(vs++[u]).map V.int=vs.map V.int++[V.int u]:=by refine aa (aK ..) ?_;rfl
 refine aa (e ..) ?_;have ln:(vs.map V.int++[V.int u]).length<=lim:=by refine aa (ai ..) (aa (ah ..) (aa (aE ..) ?_));unfold lim;exact EI hl
 refine lO ho rfl (bu rfl (dz b0 rfl) (ρ':=NB vs u Z.length none) rfl (dg rfl rfl (qv rfl rfl ln) (cj (aI (zb hl))) ?_));refine cm (enc:=V.int) (fun r ρ Z'=>∃ o done,ρ=NB vs u Z.length o/\Z'=Z++[.lst ((k4 done).map .int)]/\done++r=vs) ⟨none,[],rfl,rfl,rfl⟩ ?_ ?_
 ·intro ρ;intro _;intro Q0;refine bG (Q0) fun o done Q1 Q2 e=>?_;clear Q0;subst Q1;subst Q2;rw [List.append_nil] at e;subst e;have l1:=pz done;refine bo rfl (bq (v:=.int (xE done)) (w:=.int u) ((cW (i:= "len") (by exact bz o rfl fun ζ=>rfl) (am (v:=.own Z.length) (by exact bz o rfl fun ζ=>rfl)) (cG fM (aI (EH hl l1)))).trans (by rw [ah];rfl)) (bI (k:=done.length) rfl (bz o rfl fun ζ=>rfl) rfl rfl ln (by refine aa (ai ..) (aa (ah ..) ?_);exact M7) (by refine aa (List.getElem?_append_right (by simp) ..) ?_;simp)) dG) ⟨_,rfl,rfl⟩
 ·intro v;intro r;intro ρ;intro _;intro Q3;refine bG (Q3) fun o done Q4 Q5 e=>?_;clear Q3;subst Q4;subst Q5;have dl:done.length<=10:=by have:=congrArg List.length e;rw [ai] at this;exact Kd hl this
  have l1:=pz done;have un:k4 (done++[v])=kY (k4 done) v:=by unfold k4;refine aa (List.foldl_append ..) ?_;rfl
  refine ⟨NB vs u Z.length (some v),by induction o using Oy<;>rfl,bW rfl (d:=!decide (v∈k4 done)) (bq (v:=.int v) rfl rfl (nS fM ⟨rfl,rfl⟩ (cH (fun ζ=>rfl) _) (eR (fun ζ=>rfl) _) (by rw [decide_eq_true_iff,jq]))) (fun h=>?_) fun h=>aY (aY ⟨some v,done++[v],rfl,?_,by refine aa (List.append_assoc ..) ?_;exact e⟩)⟩
  ·refine cJ rfl (c9 (k:=Z.length) rfl bJ (am (v:=.int v) rfl) bJ (aI (EH dl l1)) cK) (aY (aY ⟨some v,done++[v],rfl,?_,by refine aa (List.append_assoc ..) ?_;exact e⟩))
   (refine aa (eP ..) (aa (un ..) ?_);rw [kY])
   induction hd:decide (v∈k4 done) using Oz with
   | true=>rw [hd] at h;exact aM h
   | false=>refine aa (if_neg (by simp) ..) (aa (aK ..) ?_);rfl
  ·(refine aa (un ..) ?_;rw [kY])
   induction hd:decide (v∈k4 done) using Oz with
   | true=>exact aa (if_pos rfl ..) rfl
   | false=>rw [hd] at h;exact cg h
end
section
variable {c:d8}{n:Nat}{ρ:aL}{Z Z1 Z2:ag}{o r:Expr}{p p':Pos}{x:Str}{v:V}
theorem dF {k:Nat}{fs:List (Str×V)}(hi:BN r=true) (h1:ev c n ρ Z o=some (.own k,Z1)) (h2:ev c n ρ Z1 r=some (.str x,Z2)) (h3:Z2[k]?=some (.sdct fs)) (h4:lk x fs=some v):ev c (n+1) ρ Z (.Subscript o r p)=some (v,Z2):=by
 have e:ev c (n+1) ρ Z (.Subscript o r p)=(ev c n ρ Z o).bind fun (v,Z)=>(ev c n ρ Z r).bind fun (w,Z)=>match w with
  | .int j=>(bO Z v).bind fun l=>if l.length<=lim then (cy j l.length).bind fun k=>(l[k]?).map (·,Z) else none
  | .str x=>(match v with
   | .own k=>(match Z[k]? with | some (.sdct fs)=>(lk x fs).map (·,Z) | _=>none)
   | _=>none)
  | _=>none:=by induction r using Expr.casesOn<;>first | rfl | exact aM hi
 refine aa (e ..) (aa (h1 ..) ?_);show (ev c n ρ Z1 r).bind _=_;refine aa (h2 ..) ?_;show (match Z2[k]? with | some (.sdct fs)=>(lk x fs).map (·,Z2) | _=>none)=_;refine aa (h3 ..) ?_;show (lk x fs).map _=_;refine aa (h4 ..) ?_;rfl
theorem qP {k:Nat}{fs:List (Str×V)}(h1:ev c n ρ Z o=some (.own k,Z1)) (h2:ev c n ρ Z1 r=some (.str x,Z2)) (h3:Z2[k]?=some (.sdct fs)) (h4:fs.length<=400):pn c n ρ Z v (.Subscript o r p)=some (ρ,Z2.set k (.sdct (st x v fs))):=by
 show (ev c n ρ Z o).bind _=_;refine aa (h1 ..) ?_;show (ev c n ρ Z1 r).bind _=_;refine aa (h2 ..) ?_;show (match Z2[k]?,V.str x with
   | some (.lst l),.int j=>if l.length<=lim then (cy j l.length).map fun q=>(ρ,Z2.set k (.lst (l.set q v))) else none
   | some (.sdct fs),.str x=>if fs.length<=400 then some (ρ,Z2.set k (.sdct (st x v fs))) else none
   | some (.idct q),.int _=>if q<=lim then some (ρ,Z2.set k (.idct (q+1))) else none
   | _,_=>none)=_
 refine aa (h3 ..) ?_;exact if_pos h4
end
structure bC where
 C:Cs
 kd:Bool
 un:Bool
 ans:List cI
noncomputable def bT (a:cI):V:=.tup (a.map .int)
noncomputable def fq (D:bC):List (Str×V):=[(T "places",.lst (D.C.taken.map aO)),(T "n",aO D.C.n),(T "value",.int D.C.value),(T "is_count",.bool D.kd),(T "is_unlike",.bool D.un),(T "answers",.lst (D.ans.map bT))]
noncomputable def bL (D:bC):List (Str×V):=[(T "places",.lst (D.C.taken.map aO)),(T "n",aO D.C.n),(T "value",.int D.C.value),(T "is_count",.bool D.kd),(T "is_unlike",.bool D.un)]
noncomputable def kg (fs:bC->List (Str×V)) (D:bC) (Z:ag):Prop:=Z[9]?=some (.sdct (fs D))
noncomputable def e8 (cells:List Int) (spot:Int):List (Str×V):=[(T "cells",.lst (cells.map .int)),(T "spot",.int spot)]
structure Dw (Z:ag) (cells:List Int) (spot:Int):Prop where
 at':Z[0]?=some (.sdct (e8 cells spot))
 len:cells.length<=40
 s:0<=spot/\spot<=1000
theorem xT {a b:Int}(h:a.natAbs<=lim):ft .Mult (.int a) (.int b)=some (.int (a*b)):=if_pos h
theorem Dh {a b:Int}(h:¬(b=0\/lim<b.natAbs)):ft .FloorDiv (.int a) (.int b)=some (.int (Int.fdiv a b)):=if_neg h
theorem AT {a b:Int}(h:b≠0):ft .Mod (.int a) (.int b)=some (.int (Int.fmod a b)):=if_neg h
section
variable {n:Nat}{Z:ag}
theorem pQ (ho:dI Z) {cells:List Int}{spot:Int}:dI (Z.set 0 (.sdct (e8 cells spot))) :=
 dW ho (show (dA _ _&&(cO _ _&&true))=true by refine aa (bw (fun ζ=>rfl) ..) ?_;rfl)
theorem sS {cells:List Int}{spot:Int}{wide:Int}(ho:dI Z) (F:Dw Z cells spot) (hw:0<wide):Ends (n+1) 457 [.own 0,.int wide] Z (fun v Z'=>∃ r,v=.int r/\0<=r/\r<wide/\Z'=Z.set 0 (.sdct (e8 cells (spot+1)))):=by
 show ∃ u Z',cL false Z (cB (bD n) 200 [(T "feed",.own 0),(T "wide",.int wide)] Z (bd 27))=some (u,Z')/\_
 let E:aL:=[(T "feed",.own 0),(T "wide",.int wide),(T "spot",.int spot)]
 have hc:(cells.map V.int).length<=lim:=aI (by have:=F.len;exact EG this)
 let τ:=Z.set 0 (.sdct (e8 cells (spot+1)))
 have g:τ[0]?=some (.sdct (e8 cells (spot+1))):=cQ F.at';have hs:=F.s;have P:∀ r,0<=r->r<wide->dI τ/\τ.length=Z.length/\cO Z.length (jK (.ret (.int r)))=true/\∃ r',jK (.ret (.int r))=.int r'/\0<=r'/\r'<wide/\τ=Z.set 0 (.sdct (e8 cells (spot+1))):=fun r h1 h2=>⟨pQ ho,aF,rfl,r,rfl,h1,h2,rfl⟩;have w0:wide≠0:=Kc hw;have bm:∀ a:Int,ft .Mod (.int a) (.int wide)=some (.int (Int.fmod a wide)):=fun a=>AT w0;have el:∀ {N:Nat}{p p2 p3 p4 p5:Pos}{z:Nat},ev (bD n) (N+5) E τ (.Call (.Name (T "len") p) [.Subscript (.Name (T "feed") p2) (.Constant (.str (T "cells")) z p3) p4] [] p5)=some (.int cells.length,τ):=(cW (i:= "len") rfl (am (dF rfl rfl rfl g rfl)) (cG rfl hc)).trans (aa (ah ..) (by rfl));refine gf (bu rfl (v:=.int spot) (dF rfl rfl rfl F.at' rfl) (ρ':=E) rfl (bu rfl (v:=.int (spot+1)) rfl (qP rfl rfl F.at' (by simp [e8])) (bW rfl (d:=decide (spot<cells.length)) (bq rfl el (zQ rfl)) (fun h=>?_) fun h=>aY ?_)))
 ·have h:=ao h;refine be (Int.eq_ofNat_of_zero_le hs.1) fun k Q0=>?_;subst Q0;have hk:k<cells.length:=Int.ofNat_lt.mp h;exact bo rfl (cF (bI rfl (dF rfl rfl rfl g rfl) rfl rfl hc (pi (by exact aa (ah ..) (hk))) (by refine aa (List.getElem?_map ..) (aa (au hk ..) ?_);rfl)) rfl (bm _)) (P _ (Int.fmod_nonneg_of_pos _ hw) (Int.fmod_lt_of_pos _ hw))
 ·have m1:ft .Mult (.int 11) (.int spot)=some (.int (11*spot)):=xT (by decide);have m2:ft .Mult (.int spot) (.int spot)=some (.int (spot*spot)):=xT (by unfold lim;exact Kb hs);have m3:ft .FloorDiv (.int (spot*spot)) (.int 2)=some (.int (Int.fdiv (spot*spot) 2)):=Dh (by decide);have m4:∀ a,ft .Mod (.int a) (.int 83)=some (.int (Int.fmod a 83)):=fun a=>AT (by decide);exact bo rfl (cF (cF (cF (cF (cF (cF rfl rfl m1) (cF (cF rfl rfl m2) rfl m3) rfl) rfl rfl) el rfl) rfl (m4 _)) rfl (bm _)) (P _ (Int.fmod_nonneg_of_pos _ hw) (Int.fmod_lt_of_pos _ hw))
theorem N1:∀ (m:Fin 32) (v:Fin 5),decide (Builtin.bitAnd (Int.fdiv (m.val:Int) (2 ^ v.val)) 1=1)=m.val.testBit v.val:=by decide +kernel
theorem DQ:∀ m:Fin 8,(List.range 3).filter (fun i=>m.val.testBit i)=tQ m:=by decide +kernel
theorem ub {m w:Nat}(ho:dI Z) (hm:m<32) (hw:(w=5/\m<32)\/(w=3/\m<8)):cV (n+1) 462 [aO m,aO w] Z=some (.lst ((bk m).map .int),Z):=by
 show cL false Z (cB (bD n) 200 [(T "mask",aO m),(T "wide",aO w)] Z (bd 28))=_;have hw5:w<=5:=Ka hw;have hr:(List.range w).filter (fun i=>m.testBit i)=tQ m:=by
  rcases hw with ⟨rfl, -⟩ | ⟨rfl,h⟩
  ·rfl
  ·exact DQ ⟨m,h⟩
 refine bS ho (bw (fun ζ=>rfl) _) (bo rfl ((cN (enc:=fun i:Nat=>V.int (0+(i:Int))) (as:=List.range w) (g:=fun i=>if m.testBit i then [V.int (0+(i:Int))] else []) (v:=.rng 0 (w:Nat)) (fj (i:= "range") rfl (am rfl) rfl) ((dy ⟨by decide,by unfold lim;exact J9 hw5⟩).trans (by simp)) (fun i hi=>ce (d:=m.testBit i) rfl (fG ((bq (cF (v:=.int (Int.fdiv (m:Int) (2 ^ i))) (w:=.int 1) (cF (v:=aO m) (w:=.int (0+(i:Int))) rfl rfl ?_) rfl rfl) rfl dG).trans ?_)) fun ζ=>rfl) rfl).trans ?_) ⟨rfl,rfl⟩)
 ·show (if 0<=0+(i:Int) then some (V.int (Int.fdiv (m:Int) (2 ^ (0+(i:Int)).toNat))) else none)=_;exact aa (if_pos J8 ..) (aa (show (0+(i:Int)).toNat=i by exact J7 ..) rfl)
 ·have hi5:i<5:=by have:=List.mem_range.mp hi;exact J6 hw5 this
  exact aa (N1 ⟨m,hm⟩ ⟨i,hi5⟩ ..) rfl
 ·rw [bV,hr];unfold bk;refine aa (List.map_map ..) ?_;refine congrArg (fun l=>some (V.lst l,Z)) ?_
  apply List.map_congr_left
  intro i _;show V.int (0+(i:Int))=V.int (i:Int);exact aa (Int.zero_add ..) rfl
theorem jN {l:cR}{v:Int}(ho:dI Z):cV (n+1) 474 [bn l,.int v] Z=some (.bool (mT l.s l.k v),Z):=by
 obtain ⟨x,s,k⟩:=l;show cL false Z (cB (bD n) 200 [(T "literal",bn ⟨x,s,k⟩),(T "v",.int v)] Z (bd 30))=_;refine bS ho rfl (bu rfl (v:=.tup [.str (qT s),.int k]) rfl (fR rfl) (bW rfl (bq rfl rfl (o3 (b:=.le))) (fun h=>?_) fun h1=>aY (bW rfl (bq rfl rfl (o3 (b:=.ge))) (fun h=>?_) fun h2=>aY (bo rfl (bq (bq rfl rfl dG) (bq rfl rfl (o3 (b:=.eq))) AR) ⟨?_,rfl⟩))))
 ·cases ao h;exact bo rfl rfl ⟨rfl,rfl⟩
 ·cases ao h;exact bo rfl rfl ⟨rfl,rfl⟩
 ·show V.bool _=V.bool _
  induction s using Sg.casesOn
  ·simp at h1
  ·simp at h2
  ·show V.bool (decide (decide (v=k)=true))=V.bool (decide (v=k));congr 1;cases decide (v=k)<;>rfl
  ·show V.bool (decide (decide (v=k)=false))=V.bool (!decide (v=k));congr 1;cases decide (v=k)<;>rfl
end
theorem zI {c : d8} {n : Nat} {ρ : aL} {Z : ag} {x1 x2 : Str} {it it2 elt : Expr} {p1 p2 p : Pos} {s : Scope} {α β γ : Type} {e1 : α -> V} {e2 : β -> V} {e3 : γ -> V} {f : α -> β -> γ} {as : List α} {bs : List β} {v v2 : V} (h1 : ev c n ρ Z it = some (v, Z)) (hi : items v = some (as.map e1)) (hx : ((lk x2 ρ).isNone && x1 != x2) = true) (h2 : ∀ a, ev c n (st x1 (e1 a) ρ) Z it2 = some (v2, Z)) (hi2 : items v2 = some (bs.map e2)) (h3 : ∀ a ∈ as, ∀ b, ev c n (st x2 (e2 b) (st x1 (e1 a) ρ)) Z elt = some (e3 (f a b), Z)) (hl : (as.flatMap fun a => bs.map fun b => f a b).length <= lim) :
  ev c (n + 1) ρ Z (.ListComp elt [⟨.Name x1 p1, it, [], 0⟩, ⟨.Name x2 p2, it2, [], 0⟩] s p) = some (.lst ((as.flatMap fun a => bs.map fun b => f a b).map e3), Z) := by
 have inner : ∀ a ∈ as, cz (fun y Z => (ev c n (st x2 y (st x1 (e1 a) ρ)) Z elt).map fun (z, Z) => ([z], Z)) (bs.map e2) Z = some (bs.map fun b => e3 (f a b), Z) := by
  intro a ha;refine (gC (enc := e2) (g := fun b => [e3 (f a b)]) fun b ζ => ?_).trans (aa (mc ..) (by rfl));show (ev c n (st x2 (e2 b) (st x1 (e1 a) ρ)) Z elt).map _ = _;refine aa (h3 a ha ..) ?_; rfl
 have lE : cz (fun x Z => (ev c n (st x1 x ρ) Z it2).bind fun (v2, Z) => (items v2).bind fun l2 =>
    cz (fun y Z => (ev c n (st x2 y (st x1 x ρ)) Z elt).map fun (z, Z) => ([z], Z)) l2 Z) (as.map e1) Z = some (as.flatMap fun a => bs.map fun b => e3 (f a b), Z) := by
  refine gC (enc := e1) fun a ha => ?_;show (ev c n (st x1 (e1 a) ρ) Z it2).bind _ = _;refine aa (h2 ..) ?_;show (items v2).bind _ = _;refine aa (hi2 ..) ?_; exact inner a ha
 have e4 : (as.flatMap fun a => bs.map fun b => e3 (f a b)) = (as.flatMap fun a => bs.map fun b => f a b).map e3 := by refine aa (List.map_flatMap ..) ?_; simp only [List.map_map]; rfl
 show (ev c n ρ Z it).bind _ = _;refine aa (h1 ..) ?_;show (items v).bind _ = _;rw [hi];show (if (lk x2 ρ).isNone && x1 != x2 then _ else none) = _
 (refine aa (if_pos hx ..) ?_; rw [lE])
 show (if (as.flatMap fun a => bs.map fun b => e3 (f a b)).length <= lim then _ else none) = _;exact aa (e4 ..) (aa (if_pos (by rw [ah]; exact hl) ..) rfl)
noncomputable def co (l:List Int):V:=.lst (l.map .int)
theorem jL {n:Nat}(l:List Int):cO n (co l)=true:=bw (fun ζ=>rfl) l
theorem kX {n:Nat}(l:cI):cO n (bT l)=true:=bw (fun ζ=>rfl) l
noncomputable def ki (F:List cI) (b:List Int):List cI:=F.flatMap fun a=>b.map fun v=>a++[v]
noncomputable def cr (bs:List (List Int)):List cI:=bs.foldl ki [[]]
theorem ni {F:List cI}{b:List Int}(hb:b.length<=5):(ki F b).length<=5*F.length:=by
 unfold ki
 induction F with
 | nil=>exact aU _
 | cons a r ih=>refine aa (List.flatMap_cons ..) (aa (ai ..) (aa (ah ..) (aa (aR ..) ?_)));exact Jh hb ih
section
variable {n:Nat}{Z:ag}
noncomputable def M0 (bs:List (List Int)) (F:List cI):Option (List Int)->aL
 | none=>[(T "boxes",.lst (bs.map co)),(T "found",.lst (F.map bT))]
 | some b=>[(T "boxes",.lst (bs.map co)),(T "found",.lst (F.map bT)),(T "box",co b)]
theorem t9 {bs : List (List Int)} (ho : dI Z) (hb : ∀ b ∈ bs, b.length <= 5) (hl : bs.length <= 4) : cV (n + 1) 467 [.lst (bs.map co)] Z = some (.lst ((cr bs).map bT), Z) := by
 show cL false Z (cB (bD n) 200 [(T "boxes", .lst (bs.map co))] Z (bd 29)) = _;refine bS ho (bw (fun ζ => kX _) _) (bu rfl (v := .lst (([[]] : List cI).map bT)) rfl (ρ' := M0 bs [[]] none) rfl (dg rfl rfl rfl (bB (aI (jJ hl))) ?_));refine cm (enc := co) (fun r ρ Z' => ∃ o done F, ρ = M0 bs F o /\ Z' = Z /\ F = cr done /\ done ++ r = bs /\ F.length <= 5 ^ done.length /\ ∀ a ∈ F, a.length = done.length) ⟨none, [], [[]], rfl, rfl, rfl, rfl, aU _, by simp⟩ ?_ ?_
 ·intro ρ; intro _; intro Q0; refine rU (Q0) fun o done F Q1 Q2 Q3 e ζ ζ => ?_; clear Q0; subst Q1; subst Q2; subst Q3;rw [List.append_nil] at e; subst e;exact bo (v := .lst ((cr done).map bT)) rfl (bz o rfl fun ζ => rfl) ⟨rfl, rfl⟩
 ·intro b; intro r; intro ρ; intro _; intro Q4; refine rU (Q4) fun o done F Q5 Q6 Q7 e hF hal => ?_; clear Q4; subst Q5; subst Q6; subst Q7;have hbb := hb b (by refine aa (aH (e ..)) ?_; simp);have dl : done.length + 1 <= 4 := by have := congrArg List.length e; rw [ai, aR] at this; exact Ez hl this
  have tl := ni (F := cr done) hbb;have p3 : 5 ^ done.length <= 5 ^ 3 := Nat.pow_le_pow_right (by decide) (Jg dl);have tu : cr (done ++ [b]) = ki (cr done) b := by unfold cr; refine aa (List.foldl_append ..) ?_; rfl
  refine ⟨M0 bs (cr done) (some b), by induction o using Oy <;> rfl, bu rfl (zI (e1 := bT) (e2 := V.int) (e3 := bT) (f := fun a v => a ++ [v]) (as := cr done) (bs := b) (v := .lst ((cr done).map bT)) (v2 := co b) rfl (bB (aI (by lia))) rfl (fun ζ => rfl) (bB (aI (Bz hbb))) (fun a ha v => ?_) ?_) (ρ' := M0 bs (cr (done ++ [b])) (some b)) (by refine aa (tu ..) ?_; rfl) (aY ⟨some b, done ++ [b], _, rfl, rfl, rfl, by refine aa (List.append_assoc ..) ?_; exact e, ?_, ?_⟩)⟩
  ·refine cF rfl (cf (am rfl)) ((su (aI (by refine aa (hal a ha ..) ?_; exact Jf dl)) (by simp [lim])).trans ?_);show _ = some (V.tup ((a ++ [v]).map V.int));refine aa (aK ..) ?_; rfl
  ·show (ki (cr done) b).length <= lim;unfold lim; lia
  ·refine aa (tu ..) (aa (ai ..) (aa (aE ..) (aa (Nat.pow_succ ..) ?_))); exact EA hF tl
  ·refine aa (tu ..) ?_;intro a ha;refine aB (List.mem_flatMap.mp ha) fun a0 h0 ha => ?_;refine aB (aX.mp ha) fun v ζ Q8 => ?_;subst Q8;refine aa (ai ..) (aa (ai ..) (aa (hal a0 h0 ..) ?_)); rfl
end
theorem DG {c:d8}{n:Nat}{ρ:aL}{Z:ag}{p:Pos}{t it e1 e2:Expr}{b rest:List Stmt}{Q:Fl->aL->ag->Prop}{l1 l2:List V}(hz:c.frz p.line=[]) (hi:iG it=some (e1,e2)) (h0:ev c n ρ Z (.Name (T "zip") default)=some (.raw (.type "zip"),Z)) (h1:ev c n ρ Z e1=some (.tup l1,Z)) (h2:ev c n ρ Z e2=some (.lst l2,Z)) (hl:l1.length=l2.length) (q:Lp (gF c n t b) ((l1.zip l2).map fun p=>.tup [p.1,p.2]) ρ Z (Nx (fun ρ Z=>Xs c (n+1) ρ Z rest Q) Q)):Xs c (n+2) ρ Z (.For t it b [] p::rest) Q:=by
 refine cp q fun fl ρ' Z' h3 h4=>?_;clear q;refine gJ hz (fl:=fl) (ρ':=ρ') (Z':=Z') ?_ h4;have e:ex c (n+1) ρ Z (.For t it b [] p)=(match iG it with
  | some (e1,e2)=>(ev c n ρ Z (.Name (T "zip") default)).bind fun (f,Z)=>(ev c n ρ Z e1).bind fun (v1,Z)=>(ev c n ρ Z e2).bind fun (v2,Z)=>match f,v1,v2 with
   | .raw (.type "zip"),.tup l1,.lst l2=>if l1.length=l2.length then
     iR (fun x ρ Z=>(b6 t x ρ).bind fun ρ=>cB c n ρ Z b) ((l1.zip l2).map fun p=>.tup [p.1,p.2]) ρ Z else none
   | _,_,_=>none
  | none=>(ev c n ρ Z it).bind fun (v,Z)=>(items v).bind fun l =>
   iR (fun x ρ Z=>(b6 t x ρ).bind fun ρ=>cB c n ρ Z b) l ρ Z):=rfl
 (refine aa (e ..) ?_;rw [hi])
 show (ev c n ρ Z (.Name (T "zip") default)).bind _=_;refine aa (h0 ..) ?_;show (ev c n ρ Z e1).bind _=_;refine aa (h1 ..) ?_;show (ev c n ρ Z e2).bind _=_;refine aa (h2 ..) ?_;show (if l1.length=l2.length then iR (gF c n t b) ((l1.zip l2).map fun p=>.tup [p.1,p.2]) ρ Z else none)=_;refine aa (if_pos hl ..) ?_;exact h3
theorem kA {l:List Int}{x:Nat}(h:x<l.length):(l.map V.int)[x]?=some (.int (l.getD x 0)):=by
 refine aa (List.getElem?_map ..) (aa (aQ ..) (aa (au h ..) ?_));rfl
noncomputable def Ni (C:Cs) (a:cI):List Int:=C.taken.map fun x=>a.getD x 0
noncomputable def ff (D:bC) (a:cI):Bool:=if D.kd then decide ((oW D.C a:Int)=a.getD D.C.n 0) else decide ((xE (ci D.C a):Int)=a.getD D.C.n 0)
theorem uI (vs:List Int):((List.range vs.length).filter fun k=>!decide (vs.getD k 0∈vs.take k)).length=xE vs:=by
 have:=fy (f:=kY) (b:=[]) (P:=fun done b=>((List.range done.length).filter fun k=>!decide (done.getD k 0∈done.take k)).length=b.length/\∀ v,v∈b↔v∈done) ⟨rfl,fun ζ=>Iff.rfl⟩ (fun done x b ih=>?_) vs
 ·exact this.1
 ·refine aa (ai ..) (aa (aE ..) (aa (List.range_succ ..) (aa (List.filter_append ..) (aa (ai ..) ?_))));have e1:((List.range done.length).filter fun k=>!decide ((done++[x]).getD k 0∈(done++[x]).take k))=(List.range done.length).filter fun k=>!decide (done.getD k 0∈done.take k):=by
   apply List.filter_congr
   intro k hk;have hk:=List.mem_range.mp hk;exact aa (aQ ..) (aa (ba hk ..) (aa (aH (aQ ..)) (aa (List.take_append_of_le_length (Nat.le_of_lt hk) ..) rfl)))
  have e2:(done++[x]).getD done.length 0=x:=by refine aa (aQ ..) (aa (List.getElem?_append_right (aU _) ..) ?_);simp
  refine aa (e1 ..) (aa (ih.1 ..) (aa (List.filter_cons ..) (aa (e2 ..) (aa (List.take_append_of_le_length (aU _) ..) (aa (List.take_length ..) ?_)))));unfold kY;by_cases hx:x∈b
  ·have hx':=(ih.2 x).mp hx;refine aa (aA hx ..) (aa (aA hx' ..) ?_);refine ⟨rfl,fun v=>?_⟩;rw [aN,an,← ih.2 v];exact ⟨.inl,fun h=>h.elim id fun e=>e▸hx⟩
  ·have hx':x∉done:=fun h=>hx ((ih.2 x).mpr h);refine aa (decide_eq_false hx' ..) (aa (decide_eq_false hx ..) ?_);refine ⟨by simp,fun v=>?_⟩;rw [if_neg (by simp),aN,aN,ih.2 v]
structure N7 (D:bC) (L:Nat):Prop where
 len:D.C.taken.length<=4
 x:∀ x∈D.C.taken,x<L
 n:D.C.n<L
 l:L<=4
section
variable {n:Nat}{Z:ag}{D:bC}{L:Nat}
noncomputable def M5 (a:cI) (vs:List Int) (m:Option Int):aL:=[(T "case",.own 9),(T "answer",bT a),(T "some",co vs)]++(match m with | none=>[] | some m=>[(T "many",.int m)])
theorem pH {fs:bC->List (Str×V)}(hfs:(lk (T "places") (fs D)=some (.lst (D.C.taken.map aO))/\lk (T "n") (fs D)=some (aO D.C.n)/\lk (T "value") (fs D)=some (.int D.C.value)/\lk (T "is_count") (fs D)=some (.bool D.kd))) (ho:dI Z) (K:kg fs D Z) (O:N7 D L) {a:cI}(ha:a.length=L):cV (n+1) 479 [.own 9,bT a] Z=some (.bool (ff D a),Z):=by
 show cL false Z (cB (bD n) 200 [(T "case",.own 9),(T "answer",bT a)] Z (bd 31))=_;have hl:=O.len;have hL:=O.l;have al:(a.map V.int).length<=lim:=aI (IB ha hL);have vl:(ci D.C a).length=D.C.taken.length:=ah _;refine bS ho rfl (bu rfl (v:=co (ci D.C a)) ((cN (enc:=aO) (as:=D.C.taken) (g:=fun x=>if true then [V.int (a.getD x 0)] else []) (dF rfl rfl rfl K hfs.1) (bB (aI (jJ hl))) (fun x hx=>ce (d:=true) rfl kD fun ζ=>bI rfl rfl rfl rfl al (pi (by refine aa (ah ..) (aa (ha ..) ?_);exact O.x x hx)) (kA (by refine aa (ha ..) ?_;exact O.x x hx))) rfl).trans (by refine aa (e6 ..) ?_;unfold ci co;refine aa (List.map_map ..) ?_;rfl)) (ρ':=M5 a (ci D.C a) none) rfl (bW rfl (d:=D.kd) (dF rfl rfl rfl K hfs.2.2.2) (fun h=>?_) fun h=>?_))
 ·refine bu rfl (v:=.int (oW D.C a)) (cW (i:= "len") rfl (am ((cN (enc:=V.int) (as:=ci D.C a) (g:=fun v=>if decide (v=D.C.value) then [V.int v] else []) rfl (bB (aI (y6 hl vl))) (fun v ζ=>ce (d:=decide (v=D.C.value)) rfl (fG (bq rfl (dF rfl rfl rfl K hfs.2.2.1) dG)) fun ζ=>rfl) rfl).trans (aa (bV ..) (by rfl)))) ((cG rfl (aI (af (List.length_filter_le _ _) (y6 hl vl)))).trans ?_)) (ρ':=M5 a (ci D.C a) (some (oW D.C a))) rfl (aY (bo rfl (bq rfl (bI rfl rfl (dF rfl rfl rfl K hfs.2.1) rfl al (pi (by refine aa (ah ..) (aa (ha ..) ?_);exact O.n)) (kA (by refine aa (ha ..) ?_;exact O.n))) dG) ⟨?_,rfl⟩))
  ·refine aa (ah ..) (aa (aH (List.countP_eq_length_filter ..)) ?_);unfold ci oW;refine aa (List.countP_map ..) ?_;rfl
  ·unfold ff;refine aa (if_pos h ..) ?_;rfl
 ·have el:∀ {N:Nat}{p p2 p3:Pos},ev (bD n) (N+3) (M5 a (ci D.C a) none) Z (.Call (.Name (T "len") p) [.Name (T "some") p2] [] p3)=some (.int (ci D.C a).length,Z):=(cW (i:= "len") rfl (am rfl) (cG rfl (aI (y6 hl vl)))).trans (aa (ah ..) (by rfl));refine bu rfl (v:=.int (xE (ci D.C a))) (cW (i:= "len") rfl (am ((cN (enc:=fun i:Nat=>V.int (0+(i:Int))) (as:=List.range (ci D.C a).length) (g:=fun k=>if !decide ((ci D.C a).getD k 0∈(ci D.C a).take k) then [V.int (0+(k:Int))] else []) (v:=.rng 0 (ci D.C a).length) (fj (i:= "range") rfl (am el) rfl) ((dy ⟨by decide,by unfold lim;exact IA hl vl⟩).trans (by simp)) (fun k hk=>ce (d:=!decide ((ci D.C a).getD k 0∈(ci D.C a).take k)) rfl (fG (bq (Z1:=Z) (Z2:=Z) (v:=.int ((ci D.C a).getD k 0)) (w:=.lst (((ci D.C a).take k).map .int)) (bI (j:=(k:Nat)) rfl rfl ?_ rfl (aI (y6 hl vl)) (pi (by exact aa (ah ..) (List.mem_range.mp hk))) (kA (List.mem_range.mp hk))) ?_ (nS rfl ⟨rfl,rfl⟩ (cH (fun ζ=>rfl) _) (eR (fun ζ=>rfl) _) (by rw [decide_eq_true_iff,jq])))) fun ζ=>rfl) rfl).trans (aa (bV ..) (by rfl)))) ((cG rfl (aI (af (List.length_filter_le _ _) (by exact aa (List.length_range ..) (y6 hl vl))))).trans ?_)) (ρ':=M5 a (ci D.C a) (some (xE (ci D.C a)))) rfl (aY (bo rfl (bq rfl (bI rfl rfl (dF rfl rfl rfl K hfs.2.1) rfl al (pi (by refine aa (ah ..) (aa (ha ..) ?_);exact O.n)) (kA (by refine aa (ha ..) ?_;exact O.n))) dG) ⟨?_,rfl⟩))
  ·show some (V.int (0+(k:Int)),Z)=_;exact aa (Int.zero_add ..) rfl
  ·refine (oQ (Z2:=Z) (l:=(ci D.C a).map V.int) (v:=co (ci D.C a)) rfl (i:=(k:Nat)) ?_ rfl (Int.natCast_nonneg _) (aI (y6 hl vl))).trans ?_
   ·show some (V.int (0+(k:Int)),Z)=_;exact aa (Int.zero_add ..) rfl
   ·show some (V.lst _,Z)=_;exact aa (Int.toNat_natCast ..) (aa (List.map_take ..) rfl)
  ·exact aa (ah ..) (aa (uI ..) rfl)
  ·unfold ff;refine aa (if_neg (by rw [h];simp) ..) ?_;rfl
end
theorem Ob (l:cR):ok 15 (bn l):=by
 obtain ⟨x,s,k⟩:=l;refine ⟨?_,rfl⟩;show (true&&(c6 16 (.str (qT s))&&(true&&true)))=true;refine aa ((vQ s).1 ..) ?_;rfl
theorem xw (a b:cR) (h:bn a=bn b):a=b:=by
 obtain ⟨x,s,k⟩:=a;obtain ⟨y,t,j⟩:=b
 injection h with h
 injection h with h1 h
 injection h with h2 h
 injection h with h3 h
 injection h1 with h1;injection h2 with h2;injection h3 with h3
 cases vR.mp h2;subst h1;subst h3;rfl
noncomputable def cA (d:List Nat):V:=.lst (d.map fun m=>co (bk m))
noncomputable def er (d:List Nat) (a:cI):Bool:=(a.zip d).all fun p=>decide (p.1∈bk p.2)
noncomputable def zV:Option cR->cI->Bool
 | none,_=>true
 | some b,a=>!fC b a
noncomputable def o0 (ans:List cI) (ls:List cR) (bar:Option cR):Bool:=ans.any fun a=>(ls.all fun l=>fC l a)&&zV bar a
noncomputable def uV:Option cR->V
 | none=>.none
 | some b=>bn b
section
variable {n:Nat}{Z:ag}{w:b8}(H:SH w Z) (W:Ws w)
include H W
theorem jj:cV (n+2) 484 [.own 2] Z=some (cA w.doms,Z):=by
 show cL false Z (cB (bD (n+1)) 200 [(T "store",.own 2)] Z (bd 32))=_;have L:=W.len;refine bS H.ok (bw (fun ζ=>jL _) _) (bo rfl ((cN (enc:=fun i:Nat=>V.int (0+(i:Int))) (as:=List.range w.doms.length) (g:=fun x=>if true then [co (bk (cv w.doms x))] else []) (v:=.rng 0 w.doms.length) (fj (i:= "range") rfl (am (dO H rfl rfl rfl b0 (vC H W))) rfl) ((dy ⟨by decide,by unfold lim;exact Iy L⟩).trans (by simp)) (fun x hx=>ce (d:=true) rfl kD fun ζ=>?_) rfl).trans ?_) ⟨rfl,rfl⟩)
 ·have hx:=List.mem_range.mp hx;refine bx rfl (am (dO H rfl rfl rfl (am (v:=.int (x:Nat)) ?_) (jO H W (bU hx)))) (jb H.ok (W.m hx).2);show some (V.int (0+(x:Int)),Z)=_;exact aa (Int.zero_add ..) rfl
 ·refine aa (e6 ..) ?_;refine congrArg (fun l=>some (V.lst l,Z)) ?_
  apply List.ext_getElem?
  intro i;refine aa (List.getElem?_map ..) (aa (List.getElem?_map ..) ?_);by_cases hi:i<w.doms.length
  ·refine aa (List.getElem?_range hi ..) (aa (bU hi ..) ?_);rfl
  ·refine aa (List.getElem?_eq_none (by simpa using hi) ..) (aa (List.getElem?_eq_none (by simpa using hi) ..) ?_);rfl
noncomputable def Nb (i x:Nat):Option Nat->aL
 | none=>[(T "store",.own 2),(T "spot",aO i),(T "x",aO x)]
 | some k=>[(T "store",.own 2),(T "spot",aO i),(T "x",aO x),(T "k",.int ((i:Int)+(k:Int)))]
theorem vJ {i x:Nat}(hi:i<=w.tr.length) (hx:x<w.doms.length):cV (n+2) 498 [.own 2,aO i,aO x] Z=some (cb (oV (w.tr.drop i) w.doms x),Z):=by
 show cL false Z (cB (bD (n+1)) 200 (Nb i x none) Z (bd 34))=_;have TL:w.tr.length<=100:=by have:=W.tr;exact BD this
 refine bS H.ok fA (dg rfl rfl (fj (i:= "range") rfl (ap (v:=aO i) rfl (am (cW (i:= "len") rfl (am (dX H rfl rfl rfl)) (cG (cD H.t) W.trl)))) rfl) (dy ⟨by unfold lim;exact Ix hi TL,by refine aa (ah ..) ?_;unfold lim;exact BC TL⟩) ?_);refine aa (ah ..) (aa (show ((w.tr.length:Int) - (i:Int)).toNat=w.tr.length - i by exact Iw ..) ?_);refine cm (enc:=fun k:Nat=>V.int ((i:Int)+(k:Int))) (fun r ρ Z'=>∃ o j,ρ=Nb i x o/\Z'=Z/\r=(List.range (w.tr.length - i)).drop j/\j<=w.tr.length - i/\oV (w.tr.drop (i+j)) w.doms x=oV (w.tr.drop i) w.doms x) ⟨none,0,rfl,rfl,rfl,Nat.zero_le _,rfl⟩ ?_ ?_
 ·intro ρ;intro _;intro Q0;refine eA (Q0) fun o j Q1 Q2 e hj h=>?_;clear Q0;subst Q1;subst Q2;have:w.tr.length - i<=j:=by
   have:=congrArg List.length e;rw [List.length_drop,List.length_range] at this;simp at this;exact Iu this
  rw [List.drop_eq_nil_of_le (It this)] at h;refine bo rfl (dO H (bz o rfl fun ζ=>rfl) rfl rfl (am (v:=.int (x:Nat)) (bz o rfl fun ζ=>rfl)) (jO H W (bU hx))) ⟨?_,rfl⟩;refine aa (aH (h ..)) ?_;rfl
 ·intro k;intro r;intro ρ;intro Z';intro Q3;refine eA (Q3) fun o j Q4 hσ e hj h=>?_;clear Q3;subst Q4;subst Z';have hj':j<w.tr.length - i:=by
   have:=congrArg List.length e;rw [List.length_drop,List.length_range,aR] at this;exact Ir this
  have hk:k=j/\r=(List.range (w.tr.length - i)).drop (j+1):=by
   rw [List.drop_eq_getElem_cons (by simpa using hj')] at e
   injection e with e1 e2
   exact ⟨by refine aa (e1 ..) ?_;simp,e2⟩
  refine bl hk fun Q5 hr=>?_;clear hk;subst Q5;have hlt:i+k<w.tr.length:=Ev hj';have ht:=au hlt;generalize w.tr[i+k]=en at ht;have gt:∀ {N:Nat}{p p2 p3 p4:Pos},ev (bD (n+1)) (N+3) (Nb i x (some k)) Z (.Subscript (.Attribute (.Name (T "store") p) (T "trail") p2) (.Name (T "k") p3) p4)=some (ig en,Z):=fun {N p p2 p3 p4}=>bI (j:=((i+k:Nat):Int)) rfl (dX H rfl rfl rfl) (show some (V.int ((i:Int)+(k:Int)),Z)=_ by exact aa (aH (Int.natCast_add ..)) rfl) (cD H.t) W.trl (pi (by exact aa (ah ..) (hlt))) (by refine aa (List.getElem?_map ..) (aa (ht ..) ?_);rfl);have d1:oV (w.tr.drop (i+k)) w.doms x=if en.x=x then en.old else oV (w.tr.drop (i+(k+1))) w.doms x:=by
   refine aa (List.drop_eq_getElem_cons hlt ..) ?_;have:w.tr[i+k]=en:=by rw [au hlt] at ht;exact aq ht
   refine aa (this ..) ?_;unfold oV;by_cases he:en.x=x
   ·exact aa (List.find?_cons_of_pos (by simpa using he) ..) (aa (if_pos he ..) rfl)
   ·refine aa (List.find?_cons_of_neg (by simpa using he) ..) (aa (if_neg he ..) ?_);rfl
  refine ⟨Nb i x (some k),by induction o using Oy<;>rfl,bW rfl (d:=decide (en.x=x)) ((bq (bI rfl gt rfl rfl (by simp [lim]) pj rfl) (w:=aO x) rfl dG).trans (aa (show decide (((en.x:Nat):Int)=(x:Int))=decide (en.x=x) from decide_eq_decide.mpr (by lia) ..) (by rfl))) (fun hb=>?_) fun hb=>aY (aY ⟨some k,k+1,rfl,rfl,hr,by exact Iq hlt,?_⟩)⟩
  ·refine bo rfl (bI rfl gt rfl rfl (by simp [lim]) (k:=1) rfl rfl) ⟨?_,rfl⟩;refine aa (aH (h ..)) (aa (d1 ..) (aa (if_pos (ao hb) ..) ?_));rfl
  ·exact aa (aH (h ..)) (aa (d1 ..) (aa (if_neg (of_decide_eq_false hb) ..) rfl))
end
noncomputable def tX (L:Nat) (l:cR):Prop:=∃ x:Nat,l.x=(x:Int)/\x<L
theorem MM {Z:ag}{o:Option cR}:mj Z .Is (uV o) .none=some o.isNone:=by induction o using Oy<;>rfl
theorem z9 {α:Type}{p:α->Bool}{l:List α}:decide (l.filter (fun x=>!p x)=[])=l.all p:=by
 induction l with
 | nil=>rfl
 | cons a r ih =>
  refine aa (List.filter_cons ..) (aa (List.all_cons ..) ?_)
  cases p a with
  | true=>simpa using ih
  | false=>simp
noncomputable def NV (D:bC) (lv bv:V):Option cI->aL
 | none=>[(T "case",.own 9),(T "literals",lv),(T "barred",bv)]
 | some a=>[(T "case",.own 9),(T "literals",lv),(T "barred",bv),(T "answer",bT a)]
section
variable {n:Nat}{Z:ag}{D:bC}{L:Nat}
noncomputable def Nh (a:cI) (d:List Nat):Option (Int×Nat)->aL
 | none=>[(T "answer",bT a),(T "boxes",cA d)]
 | some p=>[(T "answer",bT a),(T "boxes",cA d),(T "v",.int p.1),(T "box",co (bk p.2))]
noncomputable def NT (p:Int×Nat):V:=.tup [.int p.1,co (bk p.2)]
theorem np {a:cI}{d:List Nat}(ho:dI Z) (hl:a.length=d.length):cV (n+1) 491 [bT a,cA d] Z=some (.bool (er d a),Z):=by
 show cL false Z (cB (bD n) 200 (Nh a d none) Z (bd 33))=_;refine bS ho rfl (DG (l1:=a.map .int) (l2:=d.map fun m=>co (bk m)) rfl rfl rfl rfl rfl (aa (ah ..) (aa (ah ..) (aa (hl ..) (by rfl)))) ?_);refine aa (List.zip_map ..) (aa (List.map_map ..) ?_);refine cm (enc:=NT) (fun r ρ Z'=>∃ o,ρ=Nh a d o/\Z'=Z/\(r.all fun p=>decide (p.1∈bk p.2))=er d a) ⟨none,rfl,rfl,rfl⟩ ?_ ?_
 ·intro ρ;intro _;intro Q0;refine bH (Q0) fun o Q1 Q2 h=>?_;clear Q0;subst Q1;subst Q2;exact bo (v:=.bool true) rfl (rfl) ⟨by refine aa (aH (h ..)) ?_;rfl,rfl⟩
 ·rintro ⟨v,m⟩ r ρ _ ⟨o,rfl,rfl,h⟩
  rw [List.all_cons] at h;refine ⟨Nh a d (some (v,m)),by induction o using Oy<;>rfl,bW rfl (d:=!decide (v∈bk m)) (bq (v:=.int v) rfl rfl (nS (l:=(bk m).map .int) rfl ⟨rfl,rfl⟩ (cH (fun ζ=>rfl) _) (eR (fun ζ=>rfl) _) (by rw [decide_eq_true_iff,jq]))) (fun hb=>bo (v:=.bool false) rfl rfl ⟨?_,rfl⟩) fun hb=>aY (aY ⟨some (v,m),rfl,rfl,?_⟩)⟩
  ·refine aa (aH (h ..)) ?_
   induction hd:decide (v∈bk m) using Oz with
   | true=>rw [hd] at hb;exact aM hb
   | false=>rfl
  ·rw [← h]
   induction hd:decide (v∈bk m) using Oz with
   | true=>rfl
   | false=>rw [hd] at hb;exact cg hb
theorem vI {ls:List cR}{bar:Option cR}(ho:dI Z) (K:kg fq D Z) (hA:∀ a∈D.ans,a.length=L) (hn:D.ans.length<=1000) (hL:L<=4) (hls:∀ l∈ls,tX L l) (hll:ls.length<=1000) (hb:∀ b,bar=some b->tX L b):cV (n+2) 503 [.own 9,.tup (ls.map bn),uV bar] Z=some (.bool (o0 D.ans ls bar),Z):=by
 show cL false Z (cB (bD (n+1)) 200 (NV D (.tup (ls.map bn)) (uV bar) none) Z (bd 35))=_;refine bS ho rfl (dg rfl rfl (dF rfl rfl rfl K rfl) (bB (aI (Ip hn))) ?_);refine cm (enc:=bT) (fun r ρ Z'=>∃ o,ρ=NV D (.tup (ls.map bn)) (uV bar) o/\Z'=Z/\o0 r ls bar=o0 D.ans ls bar/\∀ a∈r,a.length=L) ⟨none,rfl,rfl,rfl,hA⟩ ?_ ?_
 ·intro ρ;intro _;intro Q0;refine ij (Q0) fun o Q1 Q2 h ζ=>?_;clear Q0;subst Q1;subst Q2;exact bo (v:=.bool false) rfl (rfl) ⟨by refine aa (aH (h ..)) ?_;rfl,rfl⟩
 ·intro a;intro r;intro ρ;intro Z';intro Q3;refine ij (Q3) fun o Q4 hσ h hr=>?_;clear Q3;subst Q4;subst Z';have ha:=hr a (.head _);have al:(a.map V.int).length<=lim:=aI (y6 hL ha);unfold o0 at h;rw [List.any_cons] at h;refine ⟨NV D (.tup (ls.map bn)) (uV bar) (some a),by induction o using Oy<;>rfl,bW rfl (d:=ls.all fun l=>fC l a) ((bq (w:=.lst []) ((cN (enc:=bn) (as:=ls) (g:=fun l=>if !fC l a then [bn l] else []) rfl (cj (aI hll)) (fun l hl=>ce (d:=!fC l a) rfl (fG (di (bx rfl (ap rfl (am (bI (j:=l.x) (k:=l.x.toNat) rfl rfl (bI rfl rfl rfl rfl eI pj rfl) rfl al ?_ (kA ?_)))) (jN ho)))) fun ζ=>rfl) rfl).trans (aa (bV ..) (by rfl))) rfl (mr (d:=decide (ls.filter (fun l=>!fC l a)=[])) (a':=.lst ((ls.filter fun l=>!fC l a).map bn)) (b':=.lst (([]:List cR).map bn)) rfl rfl (eJ Ob _) (eJ Ob []) ?_)).trans (aa (z9 ..) (by rfl))) (fun h1=>?_) fun h1=>aY (aY ⟨some a,rfl,rfl,?_,fun b hb=>hr b (.tail _ hb)⟩)⟩
  ·refine aB (hls l hl) fun x hx hlt=>?_;refine aa (hx ..) ?_;exact pi (by refine aa (ah ..) (aa (ha ..) ?_);exact hlt)
  ·refine aB (hls l hl) fun x hx hlt=>?_;refine aa (hx ..) (aa (ha ..) ?_);exact hlt
  ·rw [decide_eq_true_iff];exact ⟨fun h=>by exact aa (h ..) rfl,fun h=>jr xw (V.lst.inj h)⟩
  ·have hd':zV bar a=true->o0 D.ans ls bar=true:=by
    intro hd;rw [hd,h1] at h;exact h.symm
   refine bW rfl (d:=zV bar a) ((rX (d:=bar.isNone) (d':=zV bar a) (bq (v:=uV bar) rfl rfl MM) (fun hn=>?_) fun hn=>⟨rfl,?_⟩).trans ?_) (fun hd=>bo (v:=.bool true) rfl rfl ⟨by refine aa (hd' hd ..) ?_;rfl,rfl⟩) fun hd=>aY (aY (aY ⟨some a,rfl,rfl,?_,fun b hb=>hr b (.tail _ hb)⟩))
   ·induction bar using Oy with
    | none=>exact cg hn
    | some b =>
     refine aB (hb b rfl) fun x hx hlt=>?_;exact di (bx rfl (ap rfl (am (bI (j:=b.x) (k:=b.x.toNat) rfl rfl (bI rfl rfl rfl rfl eI pj rfl) rfl al (by refine aa (hx ..) ?_;exact pi (by refine aa (ah ..) (aa (ha ..) ?_);exact hlt)) (kA (by refine aa (hx ..) (aa (ha ..) ?_);exact hlt))))) (jN ho))
   ·induction bar using Oy with
    | none=>rfl
    | some b=>exact aM hn
   ·induction bar using Oy with
    | none=>rfl
    | some b=>rfl
   ·rw [hd,Bool.and_false,Bool.false_or] at h;exact h
  ·rw [h1,Bool.false_and,Bool.false_or] at h;exact h
end
theorem oB {α:Type}{x y:Str}{v:α}(h:y≠x):∀ l:List (Str×α),lk x (st y v l)=lk x l
 | []=>if_neg h
 | (z,u)::r=>by
  unfold st
  split
  ·rename_i e;subst e;show (if z=x then some v else lk x r)=if z=x then some u else lk x r;exact aa (if_neg h ..) (aa (if_neg h ..) rfl)
  ·show (if z=x then some u else lk x (st y v r))=if z=x then some u else lk x r;exact aa (oB h r ..) rfl
theorem tq {α:Type}{x:Str}{v:α}:∀ l:List (Str×α),lk x (st x v l)=some v
 | []=>if_pos rfl
 | (z,u)::r=>by
  unfold st
  split
  ·exact if_pos ‹_›
  ·rename_i h;exact (if_neg h).trans (tq r)
theorem C7 {w:b8}(W:Ws w) (i:Nat) {x:Nat}(hx:x<w.doms.length):0<oV (w.tr.drop i) w.doms x/\oV (w.tr.drop i) w.doms x<32:=by
 unfold oV
 induction h:List.find? (fun e=>e.x==x) (w.tr.drop i) using Oy with
 | none=>exact W.m hx
 | some e=>exact (W.old e (List.mem_of_mem_drop (List.mem_of_find?_eq_some h))).1
theorem nM {w:b8}{i x:Nat}(hx:x<w.doms.length):(dp w i)[x]?=some (oV (w.tr.drop i) w.doms x):=by
 unfold dp;refine aa (List.getElem?_map ..) (aa (List.getElem?_range hx ..) ?_);rfl
theorem uN {A:List cI}{ls:List cR}{l:cR}(h:d7 A ls l):o0 A ls (some l)=false:=by
 unfold o0;rw [List.any_eq_false];intro a ha
 induction hl:ls.all fun l=>fC l a using Oz with
 | false=>simp
 | true =>
  have:=h a ha (List.all_eq_true.mp hl);show ¬(true&&!fC l a)=true;refine aa (this ..) ?_;simp
theorem so {A:List cI}{ls:List cR}(h:∀ a∈A,∃ r∈ls,fC r a=false):o0 A ls none=false:=by
 unfold o0;rw [List.any_eq_false];intro a ha;refine aB (h a ha) fun r hr hm=>?_
 induction hl:ls.all fun l=>fC l a using Oz with
 | false=>simp
 | true=>rw [List.all_eq_true.mp hl r hr] at hm;exact cg hm
noncomputable def M9 (i:Nat) (s:Option (m8×List cR)) (l:Option cR):aL:=[(T "store",.own 2),(T "case",.own 9),(T "spot",aO i)]++(match s with | none=>[] | some (e,ls)=>[(T "literal",bn e.lit),(T "reasons",.tup (ls.map bn))]++(match l with | none=>[] | some l=>[(T "l",bn l)]))
structure sH (D:bC) (L:Nat) (Z:ag):Prop where
 at':kg fq D Z
 l:L<=4
 ans:∀ a∈D.ans,a.length=L
 num:D.ans.length<=1000
section
variable {n:Nat}{Z:ag}{w:b8}{D:bC}(H:SH w Z) (W:Ws w) (K:sH D w.doms.length Z)
include H W K
theorem pS {N:Nat}{ρ:aL}{l:cR}{m:Nat}{it:Expr}{p p1 p2 p3 p4 p5 p6 p7 p8:Pos}{s:Scope}(hm:m<32) (hl:∀ v∈bk m,mT l.s l.k v=true) (hρ:lk (T "l") ρ=some (bn l)) (hf:lk (T "_law_is_met") ρ=none) (h1:ev (bD (n+1)) (N+8) ρ Z it=some (.lst ((bk m).map .int),Z)) (h0:oq p.line=false) (h00:oq p8.line=false) :
  ev (bD (n+1)) (N+10) ρ Z (.Compare (.ListComp (.Name (T "v") p1) [⟨.Name (T "v") p2,it,[.UnaryOp .Not (.Call (.Name (T "_law_is_met") p3) [.Name (T "l") p4,.Name (T "v") p5] [] p6) p7],0⟩] s p) [.NotEq] [.List [] p8] p7)=some (.bool false,Z):=by
 have hb:(bk m).length<=5:=i9 hm;have st1:∀ v:Int,lk (T "l") (st (T "v") (.int v) ρ)=some (bn l):=fun v=>(oB (by decide +kernel) _).trans hρ;have st2:∀ v:Int,lk (T "v") (st (T "v") (.int v) ρ)=some (.int v):=fun v=>tq _;have st3:∀ v:Int,lk (T "_law_is_met") (st (T "v") (.int v) ρ)=none:=fun v=>(oB (by decide +kernel) _).trans hf;have nm:∀ {N:Nat}{ρ:aL}{x:Str}{v:V}{p:Pos},lk x ρ=some v->ev (bD (n+1)) (N+1) ρ Z (.Name x p)=some (v,Z):=by
  intro N ρ x v p h;show (match lk x ρ with | some v=>some (v,Z) | none=>(lk x G0).map (·,Z))=_;exact aa (h ..) rfl
 have ng:∀ {N:Nat}{ρ:aL}{x:Str}{v:V}{p:Pos},lk x ρ=none->lk x G0=some v->ev (bD (n+1)) (N+1) ρ Z (.Name x p)=some (v,Z):=by
  intro N ρ x v p h h2;show (match lk x ρ with | some v=>some (v,Z) | none=>(lk x G0).map (·,Z))=_;refine aa (h ..) (aa (h2 ..) ?_);rfl
 refine (bq (w:=.lst []) ((cN (enc:=V.int) (as:=bk m) (g:=fun v=>if !mT l.s l.k v then [V.int v] else []) h1 (bB (aI (Bz hb))) (fun v hv=>ce (d:=!mT l.s l.k v) rfl (fG (di (bx (ng (st3 v) rfl) (ap (nm (st1 v)) (am (nm (st2 v)))) (jN H.ok)))) fun ζ=>nm (st2 v)) h0).trans (aa (bV ..) (by rfl))) (fI b0 h00) (mq (d:=true) (a':=.lst (([]:List Int).map .int)) (b':=.lst []) ?_ rfl ⟨rfl,rfl⟩ ⟨rfl,rfl⟩ ⟨fun ζ=>rfl,fun ζ=>rfl⟩));show V.lst (((bk m).filter fun v=>!mT l.s l.k v).map .int)=_;exact aa (List.filter_eq_nil_iff.mpr fun v hv=>by rw [hl v hv];simp ..) rfl
theorem ud {i:Nat}{e:m8}(he:w.tr[i]?=some e) (hg:A2 D.ans (dp w i) e):cV (n+3) 508 [.own 2,.own 9,aO i] Z=some (.bool true,Z):=by
 refine C3 hg fun ls hy hlen hx hh hF=>?_;clear hg;have hi:=bj he;have hdl:(dp w i).length=w.doms.length:=by unfold dp;exact aa (ah ..) (aa (List.length_range ..) rfl)
 show cL false Z (cB (bD (n+2)) 200 (M9 i none none) Z (bd 36))=_;have gt:∀ {N:Nat}{s:Option (m8×List cR)}{l:Option cR}{p p2 p3 p4:Pos},ev (bD (n+2)) (N+3) (M9 i s l) Z (.Subscript (.Attribute (.Name (T "store") p) (T "trail") p2) (.Name (T "spot") p3) p4)=some (ig e,Z):=bI (j:=(i:Nat)) rfl (dX H rfl rfl rfl) rfl (cD H.t) W.trl (pi (by exact aa (ah ..) (hi))) (by refine aa (List.getElem?_map ..) (aa (he ..) ?_);rfl);have hlx:∀ l∈ls,tX w.doms.length l:=fun l hl=>by
  refine bG (hh l hl) fun x m h1 h2 ζ=>?_;exact ⟨x,h1,hdl▸bj h2⟩
 have e1:decide (((e.x:Nat):Int)=e.lit.x)=true:=aA hx.symm;refine bS H.ok rfl (bu rfl (v:=.tup [bn e.lit,.tup (ls.map bn)]) (cf (ap (bI rfl (gt (s:=none) (l:=none)) rfl rfl (by simp [lim]) (k:=2) rfl rfl) (am (bI rfl (gt (s:=none) (l:=none)) rfl rfl (by simp [lim]) (k:=3) rfl (by refine aa (hy ..) ?_;rfl))))) (fR rfl) (bW rfl (d:=false) (rX (d:=false) (d':=false) (bq (v:=.tup (ls.map bn)) rfl rfl rfl) (fun ζ=>(bq (bI rfl (gt (s:=some (e,ls)) (l:=none)) rfl rfl (by simp [lim]) pj rfl) (bI rfl rfl rfl rfl eI pj rfl) AQ).trans (by refine aa (e1 ..) ?_;rfl)) fun h=>nomatch h) nofun fun ζ=>aY (dg rfl rfl rfl (cj (aI (zc hlen))) ?_)));refine cm (enc:=bn) (fun r ρ Z'=>∃ o,ρ=M9 i (some (e,ls)) o/\Z'=Z/\∀ l∈r,l∈ls) ⟨none,rfl,rfl,fun ζ h=>h⟩ ?_ ?_
 ·intro ρ;intro Z';intro Q0;refine bH (Q0) fun o Q1 hσ ζ=>?_;clear Q0;subst Q1;subst Z';have hc:=vI (n:=n) (ls:=ls) (bar:=some e.lit) H.ok K.at' K.ans K.num K.l hlx (zc hlen) (fun b hb=>by refine bp hb ?_;exact ⟨e.x,hx,(W.old e (List.mem_of_getElem? he)).2⟩);rw [uN hF] at hc;refine bo rfl (di (bx (a:=503) (bz o rfl fun ζ=>rfl) (ap (v:=.own 9) (rfl) (ap (v:=.tup (ls.map bn)) (rfl) (am (v:=bn e.lit) (rfl)))) hc)) ⟨rfl,rfl⟩
 ·intro l;intro r;intro ρ;intro Z';intro Q2;refine bH (Q2) fun o Q3 hσ hr=>?_;clear Q2;subst Q3;subst Z';refine bG (hh l (hr l (.head _))) fun x m h1 h2 h3=>?_;have hxl:x<w.doms.length:=hdl▸bj h2;have hm:=C7 W i hxl;rw [nM hxl] at h2;(have q_:=aq h2;clear h2;subst q_);refine ⟨M9 i (some (e,ls)) (some l),by induction o using Oy<;>rfl,bW rfl (d:=false) (pS H W K (l:=l) hm.2 h3 rfl rfl (bx (a:=75) rfl (am (bx (a:=498) rfl (ap (v:=.own 2) rfl (ap (v:=aO i) rfl (am (v:=aO x) (bI rfl rfl rfl rfl eI pj (by refine aa (h1 ..) ?_;rfl))))) (vJ H W (Nat.le_of_lt hi) hxl))) (jb H.ok hm.2)) rfl rfl) nofun fun ζ=>aY (aY ⟨some l,rfl,rfl,fun y hy=>hr y (.tail _ hy)⟩)⟩
end
noncomputable def NU (l:Option cR):aL:=[(T "store",.own 2),(T "case",.own 9)]++(match l with | none=>[] | some l=>[(T "l",bn l)])
theorem Ny (v:Int):ok 14 (.int v):=⟨rfl,rfl⟩
theorem te (a:cI):ok 15 (bT a):=jQ Ny a
theorem x9 (a b:cI) (h:bT a=bT b):a=b:=by injection h with h;exact jr tC h
noncomputable def Dy (D:bC) (d:List Nat) (left:List cI):Option Nat->Option Int->aL
 | none,_=>[(T "case",.own 9),(T "boxes",cA d),(T "left",.lst (left.map bT))]
 | some x,none=>[(T "case",.own 9),(T "boxes",cA d),(T "left",.lst (left.map bT)),(T "x",aO x)]
 | some x,some v=>[(T "case",.own 9),(T "boxes",cA d),(T "left",.lst (left.map bT)),(T "x",aO x),(T "v",.int v)]
section
variable {n:Nat}{Z:ag}{w:b8}{D:bC}(H:SH w Z) (W:Ws w) (K:sH D w.doms.length Z)
include H W K
theorem vH (hc:pe D.ans w):cV (n+3) 513 [.own 2,.own 9] Z=some (.bool true,Z):=by
 refine fi hc fun hlen hh hF=>?_;clear hc;show cL false Z (cB (bD (n+2)) 200 (NU none) Z (bd 37))=_;have hlx:∀ l∈w.clash,tX w.doms.length l:=fun l hl=>by
  refine bG (hh l hl) fun x m h1 h2 ζ=>?_;exact ⟨x,h1,bj h2⟩
 refine bS H.ok rfl (dg rfl rfl (dX H rfl rfl rfl) (cj (aI hlen)) ?_);refine cm (enc:=bn) (fun r ρ Z'=>∃ o,ρ=NU o/\Z'=Z/\∀ l∈r,l∈w.clash) ⟨none,rfl,rfl,fun ζ h=>h⟩ ?_ ?_
 ·intro ρ;intro Z';intro Q0;refine bH (Q0) fun o Q1 hσ ζ=>?_;clear Q0;subst Q1;subst Z';have hc:=vI (n:=n) (ls:=w.clash) (bar:=none) H.ok K.at' K.ans K.num K.l hlx hlen (fun b hb=>by exact aw hb);rw [so hF] at hc;exact bo rfl (di (bx (a:=503) (bz o rfl fun ζ=>rfl) (ap (v:=.own 9) (rfl) (ap (v:=.tup (w.clash.map bn)) (dX H (rfl) rfl rfl) (am (v:=.none) rfl))) hc)) ⟨rfl,rfl⟩
 ·intro l;intro r;intro ρ;intro Z';intro Q2;refine bH (Q2) fun o Q3 hσ hr=>?_;clear Q2;subst Q3;subst Z';refine bG (hh l (hr l (.head _))) fun x m h1 h2 h3=>?_;have hm:=W.get h2;exact ⟨NU (some l),by induction o using Oy<;>rfl,bW rfl (d:=false) (pS H W K (l:=l) hm.2 h3 rfl rfl (bx (a:=75) rfl (am (dO H rfl rfl rfl (am (v:=aO x) (bI rfl rfl rfl rfl eI pj (by refine aa (h1 ..) ?_;rfl))) (jO H W h2))) (jb H.ok hm.2)) rfl rfl) nofun fun ζ=>aY (aY ⟨some l,rfl,rfl,fun y hy=>hr y (.tail _ hy)⟩)⟩
theorem ob {left:List cI}(O:N7 D w.doms.length) (hl:∀ a∈left,a.length=w.doms.length) (hn:left.length<=1000) (hs:∀ x∈D.C.taken++[D.C.n],∀ v∈bk (cv w.doms x),∃ a∈left,a.getD x 0=v):cV (n+1) 518 [.own 9,cA w.doms,.lst (left.map bT)] Z=some (.bool true,Z):=by
 show cL false Z (cB (bD n) 200 (Dy D w.doms left none none) Z (bd 38))=_;have l4:=O.len;have dl:=W.len;refine bS H.ok rfl (dg rfl rfl (cF (dF rfl rfl rfl K.at' rfl) (fI (am (dF rfl rfl rfl K.at' rfl)) rfl) (mE (f:=aO) (a:=D.C.taken) (b:=[D.C.n]) (jJ l4) (by simp))) (bB (aI (by refine aa (ai ..) (aa (aE ..) ?_);exact E0 l4))) ?_);refine cm (enc:=aO) (fun r ρ Z'=>∃ o q,ρ=Dy D w.doms left o q/\Z'=Z/\∀ x∈r,x∈D.C.taken++[D.C.n]) ⟨none,none,rfl,rfl,fun ζ h=>h⟩ ?_ ?_
 ·intro ρ;intro Z';intro Q0;refine bG (Q0) fun o q Q1 hσ ζ=>?_;clear Q0;subst Q1;subst Z';exact bo (v:=.bool true) rfl (rfl) ⟨rfl,rfl⟩
 ·intro x;intro r;intro ρ;intro Z';intro Q2;refine bG (Q2) fun o q Q3 hσ hr=>?_;clear Q2;subst Q3;subst Z';have hxm:=hr x (.head _);have hx:x<w.doms.length:=by
   rcases aN.mp hxm with h | h
   ·exact O.x x h
   ·refine aa (an.mp h ..) ?_;exact O.n
  have hm:=W.m hx;have bnd:∃ q',b6 (.Name (T "x") default) (aO x) (Dy D w.doms left o q)=some (Dy D w.doms left (some x) q'):=by
   induction o using Oy with
   | none=>exact ⟨none,rfl⟩
   | some o=>induction q using Oy with
    | none=>exact ⟨none,rfl⟩
    | some v=>exact ⟨some v,rfl⟩
  refine be bnd fun q' bnd=>?_;refine ⟨_,bnd,dg rfl rfl (bI (j:=(x:Nat)) rfl (v:=cA w.doms) (bz q' rfl fun ζ=>rfl) (bz q' rfl fun ζ=>rfl) rfl (aI (jJ dl)) (pi (by exact aa (ah ..) (hx))) (by refine aa (List.getElem?_map ..) (aa (bU hx ..) ?_);rfl)) (bB (aI (by have:=i9 hm.2;exact Bz this))) ?_⟩;refine cm (enc:=V.int) (fun s ρ Z'=>∃ q,ρ=Dy D w.doms left (some x) q/\Z'=Z/\∀ v∈s,v∈bk (cv w.doms x)) ⟨q',rfl,rfl,fun ζ h=>h⟩ ?_ ?_
  ·intro ρ;intro Z';intro Q4;refine bH (Q4) fun q Q5 hσ ζ=>?_;clear Q4;subst Q5;subst Z';exact aY ⟨some x,q,rfl,rfl,fun y hy=>hr y (.tail _ hy)⟩
  ·intro v;intro s;intro ρ;intro Z';intro Q6;refine bH (Q6) fun q Q7 hσ hs'=>?_;clear Q6;subst Q7;subst Z';refine aB (hs x hxm v (hs' v (.head _))) fun a ha hav=>?_;have ne:((left.filter fun a=>decide (a.getD x 0=v)).map bT)≠[]:=by
    intro h;have:=List.filter_eq_nil_iff.mp (List.map_eq_nil_iff.mp h) a ha;exact this (aA hav)
   refine ⟨Dy D w.doms left (some x) (some v),by induction q using Oy<;>rfl,bW rfl (d:=false) (bq (w:=.lst []) ((cN (enc:=bT) (as:=left) (g:=fun a=>if decide (a.getD x 0=v) then [bT a] else []) rfl (bB (aI hn)) (fun a ha=>ce (d:=decide (a.getD x 0=v)) rfl (fG (bq (bI (j:=(x:Nat)) rfl rfl rfl rfl (aI (by have:=hl a ha;exact y6 dl this)) (pi (by refine aa (ah ..) (aa (hl a ha ..) ?_);exact hx)) (kA (by refine aa (hl a ha ..) ?_;exact hx))) rfl dG)) fun ζ=>rfl) rfl).trans (aa (bV ..) (by rfl))) (fI b0 rfl) (mr (a':=.lst ((left.filter fun a=>decide (a.getD x 0=v)).map bT)) (b':=.lst []) rfl rfl (eJ te _) ⟨rfl,rfl⟩ ⟨fun h=>(nomatch h),fun h=>absurd (V.lst.inj h) ne⟩)) nofun fun ζ=>aY (aY ⟨some v,rfl,rfl,fun u hu=>hs' u (.tail _ hu)⟩)⟩
end
structure Dx (d:List Nat):Prop where
 m:∀ x,x<d.length->0<cv d x/\cv d x<32
theorem Ws.dok {w:b8}(W:Ws w):Dx w.doms:=⟨fun ζ h=>W.m h⟩
theorem eW {d:List Nat}(K:Dx d) {x:Nat}{s:Sg}{k:Int}(hx:x<d.length) (hk:0<=k/\k<8) (h:eF d (nl x s k)):∀ v∈bk (cv d x),mT s k v=true:=by
 intro v hv;have hm:=K.m x hx;have e:=h (cv d x) (bU hx);have F:=fz (x:=0) (s:=s) hk hm.2;have e':e9 s k (cv d x)=cv d x:=e;rw [e'] at F;rw [F.2.2] at hv;exact (aV.mp hv).2
theorem ew {m:Nat}(h:0<m/\m<32):lo m∈bk m:=(fO ⟨m,h.2⟩ (bg.mp h.1)).2.2.1
theorem rN {m:Nat}(h:0<m/\m<32):hi m∈bk m:=(fO ⟨m,h.2⟩ (bg.mp h.1)).2.2.2.1
noncomputable def pt (d:List Nat):cI:=d.map lo
theorem pO {d:List Nat}{x:Nat}(hx:x<d.length):(pt d).getD x 0=lo (cv d x):=by
 unfold pt;refine aa (aQ ..) (aa (List.getElem?_map ..) (aa (bU hx ..) ?_));rfl
theorem w8 {d:List Nat}(K:Dx d) (hf:∀ m∈d,fx m=true) {x:Nat}(hx:x<d.length):fx (cv d x)=true:=hf _ (List.mem_of_getElem? (bU hx))
theorem lY (C:Cs) (d:List Nat):(de C d).length=C.taken.countP (eK C d):=(List.countP_eq_length_filter).symm
theorem sq (C:Cs) (d:List Nat):(dd C d).length=C.taken.countP (cn C d):=(List.countP_eq_length_filter).symm
theorem v3 {C:Cs}{d:List Nat}(K:Dx d) (hx:∀ x∈C.taken,x<d.length) (hn:C.n<d.length) (h4:C.taken.length<=4) (hf:∀ m∈d,fx m=true) (S:dH C d):d6 C (pt d):=by
 have c1:(de C d).length<=4:=cU h4;have c2:(dd C d).length<=C.taken.length:=List.length_filter_le _ _;have a1:=eW K hn (zf c1) S.1 _ (ew (K.m _ hn));have a2:=eW K hn (by unfold dh;exact LN h4 c2) S.2.1 _ (ew (K.m _ hn));have a1:((de C d).length:Int)<=lo (cv d C.n):=ao a1;have a2:lo (cv d C.n)<=dh C d:=ao a2;have e1:oW C (pt d)=(de C d).length:=by
  refine aa (lY ..) ?_;unfold oW;refine List.countP_congr fun x hxm=>?_;have hl:=hx x hxm;unfold eK;exact aa (w8 K hf hl ..) (aa (pO hl ..) (aa (Bool.true_and ..) (by rfl)))
 have e2:(C.taken.countP fun x=>!cn C d x)=(de C d).length:=by
  refine aa (lY ..) ?_;refine List.countP_congr fun x hxm=>?_;have hl:=hx x hxm;have hm:=K.m x hl;have hfx:=w8 K hf hl;unfold eK cn;rw [hfx,Bool.not_not,Bool.true_and,decide_eq_true_iff,decide_eq_true_iff];exact ⟨fun h=>(xn ⟨_,hm.2⟩ (bg.mp hm.1) hfx _ h).symm,fun h=>h▸ew hm⟩
 have e3:=rC (C:=C) (d:=d);rw [e2] at e3;unfold d6;refine aa (e1 ..) (aa (pO hn ..) ?_);exact LM a1 a2 e3
theorem iP:∀ (r:List Tp) (last:Option Int),r.Pairwise (fun s t=>s.1<=t.1)->(∀ t∈r,t.2.1=t.1)->(∀ k,last=some k->∀ t∈r,k<=t.1)->∀ t∈r,last=some t.1\/t.1∈(dN last r).map fun t=>t.1
 | [],_,_,_,_,_,h=>nomatch h
 | t::r,last,hp,hl,hk,u,hu=>by
  have hp:=List.pairwise_cons.mp hp;unfold dN
  induction hg:M8 last t.2.1 using Oz with
  | true =>
   refine aa (if_pos rfl ..) (aa (List.map_cons ..) ?_)
   cases hu with
   | head=>exact .inr (.head _)
   | tail _ hu =>
    rcases iP r (some t.1) hp.2 (fun t ht=>hl t (.tail _ ht)) (fun k e t ht=>by refine bp e ?_;exact hp.1 t ht) u hu with h | h
    ·exact .inr (by exact aa (aH (aq h ..)) (.head _))
    ·exact .inr (.tail _ h)
  | false =>
   refine aa (if_neg (by simp) ..) ?_
   induction last using Oy with
   | none=>exact cg hg
   | some k =>
    cases hu with
    | head =>
     have h1:¬k<t.2.1:=of_decide_eq_false hg;have h2:=hk k rfl t (.head _);rw [hl t (.head _)] at h1;exact .inl (congrArg some (LL h1 h2))
    | tail _ hu=>exact iP r (some k) hp.2 (fun t ht=>hl t (.tail _ ht)) (fun k e t ht=>hk k e t (.tail _ ht)) u hu
theorem zk {s t:Tp}(h:AI s t=true):s.1<=t.1:=by
 unfold AI cu at h;split at h
 ·exact LK ‹_›
 ·have:=ao h;exact LJ this
theorem zj {s t:Tp}(h:AI s t=false):t.1<=s.1:=by
 unfold AI cu at h;split at h
 ·exact LI ‹_›
 ·have:=of_decide_eq_false h;exact LH this
theorem lV {x:Tp}:∀ {l:List Tp},l.Pairwise (fun s t=>s.1<=t.1)->(eY AI x l).Pairwise (fun s t=>s.1<=t.1)
 | [],_=>List.pairwise_cons.mpr ⟨(fun ζ h=>nomatch h),.nil⟩
 | y::r,h=>by
  have hc:=List.pairwise_cons.mp h;unfold eY
  induction hl:AI x y using Oz with
  | true =>
   refine aa (if_pos rfl ..) ?_;refine List.pairwise_cons.mpr ⟨fun z hz=>?_,h⟩;have h1:=zk hl
   cases hz with
   | head=>exact h1
   | tail _ hz=>exact Int.le_trans h1 (hc.1 z hz)
  | false =>
   refine aa (if_neg (by simp) ..) ?_;refine List.pairwise_cons.mpr ⟨fun z hz=>?_,lV hc.2⟩;rcases jR.mp hz with rfl | hz
   ·exact zj hl
   ·exact hc.1 z hz
theorem iF:∀ l:List Tp,(cP AI l).Pairwise (fun s t=>s.1<=t.1)
 | []=>.nil
 | x::r=>lV (iF r)
theorem w9:∀ m:Fin 32,m.val≠0->fx m=true->hi m=lo m:=by decide +kernel
theorem DP {C:Cs}{d:List Nat}(K:Dx d) (hx:∀ x∈C.taken,x<d.length) (hn:C.n<d.length) (h4:C.taken.length<=4) (hf:∀ m∈d,fx m=true) (S:eS C d):eC C (pt d):=by
 have hch:(eB C d).length<=4:=af (gz _ _) (by exact aa (iN ..) (h4));have fl:=rQ d C.taken;have fl2:(dU d C.taken).length<=C.taken.length:=List.length_filter_le _ _;have a1:((eB C d).length:Int)<=lo (cv d C.n):=ao (eW K hn (zf hch) S.1.1 _ (ew (K.m _ hn)));have a2:lo (cv d C.n)<=dL d C.taken:=ao (eW K hn (by unfold dL;exact LG h4 fl fl2) S.1.2.1 _ (ew (K.m _ hn)));have hfx:∀ x∈C.taken,tD d x=true:=fun x h=>w8 K hf (hx x h);have fr:fH d C.taken=[]:=List.filter_eq_nil_iff.mpr fun x h=>by refine aa (hfx x h ..) ?_;simp
 rw [lK,fr] at a2;have va:∀ x∈C.taken,(pt d).getD x 0=jI d x:=fun x h=>pO (hx x h);have F:=j0 d C.taken;have b1:(dj d C.taken).length<=xE (ci C (pt d)):=by
  have:=rH (l:=ci C (pt d)) F.1 fun v hv=>?_
  ·rwa [ah] at this
  ·refine aB (aX.mp hv) fun x hxm Q0=>?_;subst Q0;have hxt:=(aV.mp (F.2.1 x hxm)).1;exact aX.mpr ⟨x,hxt,va x hxt⟩
 have b2:xE (ci C (pt d))<=(eB C d).length:=by
  have:=oT (l:=ci C (pt d)) (m:=(eB C d).map fun t=>t.1) fun v hv=>?_
  ·rwa [ah] at this
  ·refine aB (aX.mp hv) fun x hxm Q1=>?_;subst Q1;have hl:=hx x hxm;have hm:=K.m x hl;have hh:hi (cv d x)=lo (cv d x):=w9 ⟨_,hm.2⟩ (bg.mp hm.1) (hfx x hxm);have:=iP (qX d C.taken) none (iF _) (fun t ht=>by
    refine aB (aX.mp (f7.mp ht)) fun y hy Q2=>?_;subst Q2;have hl:=hx y hy;have hm:=K.m y hl;exact (w9 ⟨_,hm.2⟩ (bg.mp hm.1) (hfx y hy)).symm) (fun k e=>nomatch e) (hi (cv d x),lo (cv d x),x) (f7.mpr (aX.mpr ⟨x,hxm,rfl⟩))
   rcases this with h | h
   ·exact aw h
   ·refine aa (va x hxm ..) ?_;rw [hh] at h;exact h
 unfold eC;refine aa (pO hn ..) ?_;simp at a2;exact LF a1 b1 b2 a2
noncomputable def hM (v:Int) (m:Nat):Bool:=fx m&&decide (lo m=v)
noncomputable def bM (v:Int) (m:Nat):Bool:=!decide (v∈bk m)
noncomputable def oM (v:Int) (m:Nat):Bool:=!hM v m&&!bM v m
theorem wq:∀ (v:Fin 8) (m:Fin 32),m.val≠0->oM (v:Nat) m=true->(((v:Nat):Int)∈bk m/\∃ u∈bk m,u≠((v:Nat):Int)):=by decide +kernel
theorem rO:∀ (v:Fin 8) (m:Fin 32),m.val≠0->hM (v:Nat) m=true->∀ u∈bk m,u=((v:Nat):Int):=by decide +kernel
theorem vY {v:Int}(hv:0<=v/\v<8):∀ (ms:List Nat),(∀ m∈ms,0<m/\m<32)->∀ t:Nat,ms.countP (hM v)<=t->t<=ms.countP (hM v)+ms.countP (oM v)->∃ cs:List Int,cs.length=ms.length/\(∀ x m,ms[x]?=some m->cs.getD x 0∈bk m)/\cs.countP (fun c=>decide (c=v))=t
 | [],_,t,_,h2=>⟨[],rfl,by simp,by simp at h2;simp [h2]⟩
 | m::ms,hm,t,h1,h2=>by
  have hm0:=hm m (.head _);have hne:=bg.mp hm0.1;refine be (kf hv) fun w Q0=>?_;subst Q0;have go:∀ (c:Int) (s:Nat),c∈bk m->ms.countP (hM (w:Nat))<=s->s<=ms.countP (hM (w:Nat))+ms.countP (oM (w:Nat))->s+(if c=((w:Nat):Int) then 1 else 0)=t->∃ cs:List Int,cs.length=(m::ms).length/\(∀ x m',(m::ms)[x]?=some m'->cs.getD x 0∈bk m')/\cs.countP (fun c=>decide (c=((w:Nat):Int)))=t:=by
   intro c s hc s1 s2 s3;refine bH (vY hv ms (fun m' h=>hm m' (.tail _ h)) s s1 s2) fun cs l g k=>?_;refine ⟨c::cs,by refine aa (aR ..) (aa (l ..) ?_);rfl,fun x m' h=>?_,?_⟩
   ·induction x using OB with
    | zero=>refine bp h ?_;exact hc
    | succ x=>exact g x m' h
   ·refine aa (List.countP_cons ..) (aa (k ..) (aa (aH (s3 ..)) ?_));by_cases e:c=((w:Nat):Int)
    ·refine aa (aA e ..) (aa (if_pos e ..) ?_);rfl
    ·refine aa (decide_eq_false e ..) (aa (if_neg e ..) ?_);rfl
  rw [List.countP_cons] at h1 h2;rw [List.countP_cons] at h2
  induction hh:hM (w:Nat) m using Oz with
  | true =>
   have ho:oM (w:Nat) m=false:=by unfold oM;refine aa (hh ..) ?_;rfl
   rw [hh] at h1 h2;rw [ho] at h2;simp at h1 h2;have hc:=ew hm0;have e:=rO w ⟨m,hm0.2⟩ hne hh _ hc;exact go (lo m) (t - 1) hc (LD h1) (LC h2) (by exact aa (if_pos e ..) (LB h1))
  | false =>
   rw [hh] at h1 h2
   induction ho:oM (w:Nat) m using Oz with
   | false =>
    rw [ho] at h2;simp at h1 h2;have hb:((w:Nat):Int)∉bk m:=by
     unfold oM bM at ho;rw [hh] at ho;simpa using ho
    have hc:=ew hm0;have hne2:lo m≠((w:Nat):Int):=fun e=>hb (e▸hc);exact go (lo m) t hc (BH h1) (LA h2) (by exact aa (if_neg hne2 ..) (HG))
   | true =>
    rw [ho] at h2;simp at h1 h2;refine bl (wq w ⟨m,hm0.2⟩ hne ho) fun k1 Q1=>?_;refine aB (Q1) fun u k2 k3=>?_;clear Q1;by_cases ht:t<=ms.countP (hM (w:Nat))
    ·exact go u t k2 (BH h1) (Ly ht) (by exact aa (if_neg k3 ..) (HG))
    ·exact go ((w:Nat):Int) (t - 1) k1 (Lx ht) (Lu h2) (by exact aa (if_pos rfl ..) (Ls ht))
theorem iV {p:Nat->Bool}{m a:Nat}:∀ {l:List Nat}{x:Nat},l[x]?=some m->(l.set x a).countP p+(if p m then 1 else 0)=l.countP p+(if p a then 1 else 0)
 | [],_,h=>by exact aw h
 | b::l,0,h=>by
  refine bp h ?_;refine aa (List.set_cons_zero ..) (aa (List.countP_cons ..) (aa (List.countP_cons ..) ?_));exact Lr
 | b::l,x+1,h=>by
  have:=iV (p:=p) (a:=a) (l:=l) (x:=x) h;refine aa (List.set_cons_succ ..) (aa (List.countP_cons ..) (aa (List.countP_cons ..) ?_));exact Lq this
noncomputable def one (u:Int):Nat:=2 ^ u.toNat
theorem Nv:∀ (m:Fin 32),∀ u∈bk m,0<one u/\one u<32/\bk (one u)=[u]:=by decide +kernel
theorem DS:∀ (v:Fin 8) (m:Fin 32),∀ u∈bk m,hM (v:Nat) (one u)=decide (u=((v:Nat):Int))/\oM (v:Nat) (one u)=false:=by decide +kernel
section
variable {C:Cs}{d:List Nat}{k:Nat}(K:Dx d) (hd:d.length=k+1) (ht:C.taken=List.range k) (hn:C.n=k) (h4:k<=4) (hv:0<=C.value/\C.value<8) (S:dH C d)
noncomputable def jH (d:List Nat) (k:Nat):List Nat:=(List.range k).map (cv d)
include ht in
theorem AL:(de C d).length=(jH d k).countP (hM C.value):=by
 refine aa (lY ..) (aa (ht ..) ?_);unfold jH;refine aa (List.countP_map ..) ?_;rfl
include ht in
theorem xU:(dd C d).length=(jH d k).countP (bM C.value):=by
 refine aa (sq ..) (aa (ht ..) ?_);unfold jH;refine aa (List.countP_map ..) ?_;rfl
include hv in
theorem Mn:∀ m:Nat,0<m/\m<32->¬(hM C.value m=true/\bM C.value m=true):=by
 intro m hm ⟨h1,h2⟩;refine be (kf hv) fun w e=>?_;rw [e] at h1 h2;have:=rO w ⟨m,hm.2⟩ (bg.mp hm.1) h1 _ (ew hm);unfold bM at h2;rw [← this,aA (ew hm)] at h2;exact aM h2
include hv in
theorem sk:∀ l:List Nat,(∀ m∈l,0<m/\m<32)->l.countP (hM C.value)+l.countP (bM C.value)+l.countP (oM C.value)=l.length
 | [],_=>rfl
 | m::l,h=>by
  have ih:=sk l fun m' hm=>h m' (.tail _ hm);have hb:=Mn hv m (h m (.head _));refine aa (List.countP_cons ..) (aa (List.countP_cons ..) (aa (List.countP_cons ..) (aa (aR ..) ?_)));unfold oM at *
  induction h1:hM C.value m using Oz<;>cases h2:bM C.value m<;>simp [h1,h2] at hb ⊢<;>(first | exact Lo ih | exact Lm ih | exact Ll ih)
theorem sj {α:Type}{p:α->Bool}{l:List α}(h:0<l.countP p):∃ x∈l,p x=true:=by
 rw [List.countP_pos_iff] at h;exact h
include K hd ht hn h4 hv S
theorem rE:∀ m∈jH d k,0<m/\m<32:=by
 intro m hm;refine aB (aX.mp hm) fun x hx Q0=>?_;subst Q0;exact K.m x (by have:=List.mem_range.mp hx;exact ER hd this)
theorem Al:∀ u∈bk (cv d k),((jH d k).countP (hM C.value):Int)<=u/\u<=(jH d k).countP (hM C.value)+(jH d k).countP (oM C.value):=by
 intro u hu;have hk:k<d.length:=EJ hd;have c3:=sk hv (jH d k) (rE K hd ht hn h4 hv S);have ml:(jH d k).length=k:=by unfold jH;simp
 have e1:=AL (C:=C) (d:=d) (k:=k) ht;have e2:=xU (C:=C) (d:=d) (k:=k) ht;have tl:C.taken.length=k:=by refine aa (ht ..) ?_;simp
 have S1:=S.1;have S2:=S.2.1;rw [hn] at S1 S2;have a1:((de C d).length:Int)<=u:=ao (eW K hk (Lk h4 c3 ml e1) S1 u hu);have a2:u<=dh C d:=ao (eW K hk (by unfold dh;exact Lj h4 c3 ml e2 tl) S2 u hu);unfold dh at a2;exact Li c3 ml e1 e2 tl a1 a2
theorem Bk (ho:0<(jH d k).countP (oM C.value)):lo (cv d k)<((jH d k).countP (hM C.value):Int)+(jH d k).countP (oM C.value)/\((jH d k).countP (hM C.value):Int)<hi (cv d k):=by
 have hk:k<d.length:=EJ hd;have hmk:=K.m k hk;have c3:=sk hv (jH d k) (rE K hd ht hn h4 hv S);have ml:(jH d k).length=k:=by unfold jH;simp
 have e1:=AL (C:=C) (d:=d) (k:=k) ht;have e2:=xU (C:=C) (d:=d) (k:=k) ht;have tl:C.taken.length=k:=by refine aa (ht ..) ?_;simp
 refine aB (sj ho) fun m hm hom=>?_;refine aB (aX.mp hm) fun x hx Q0=>?_;subst Q0;have hxk:=List.mem_range.mp hx;have hxd:x<d.length:=Lh hk hxk;have hmx:=K.m x hxd;refine be (kf hv) fun w hw=>?_;rw [hw] at hom;refine bl (wq w ⟨_,hmx.2⟩ (bg.mp hmx.1) hom) fun q1 Q1=>?_;refine aB (Q1) fun u q2 q3=>?_;clear Q1;rw [← hw] at q1 q3 hom;have hxo:x∈d4 C d:=by
  refine aV.mpr ⟨by refine aa (ht ..) ?_;exact hx,?_⟩;unfold oM at hom;have hom:=ay.mp hom;have n1:x∉de C d:=fun h=>by
   have h2:hM C.value (cv d x)=true:=(aV.mp h).2;rw [h2] at hom;cases hom.1
  have n2:x∉dd C d:=fun h=>by
   have h2:bM C.value (cv d x)=true:=(aV.mp h).2;rw [h2] at hom;cases hom.2
  refine aa (decide_eq_false n1 ..) (aa (decide_eq_false n2 ..) ?_);rfl
 have S3:=S.2.2;rw [hn] at S3;have R:=Al K hd ht hn h4 hv S;by_cases h1:hi (cv d k)=(de C d).length
 ·rw [if_pos h1] at S3;have:=eW K hxd hv (S3 x hxo) _ q1;have:(!decide (C.value=C.value))=true:=this;simp at this
 ·rw [if_neg h1] at S3;have r1:=R _ (rN hmk);have r2:=R _ (ew hmk);by_cases h2:lo (cv d k)=dh C d
  ·rw [if_pos h2] at S3;have:=eW K hxd hv (S3 x hxo) _ q2;exact absurd (ao this) q3
  ·unfold dh at h2;exact Lg c3 ml e1 e2 tl h1 r1 r2 h2
end
theorem gY {cs:List Int}{t:Int}{x:Nat}(h:x<cs.length):(cs++[t]).getD x 0=cs.getD x 0:=by
 exact aa (aQ ..) (aa (ba h ..) (aa (aH (aQ ..)) rfl))
theorem gX {cs:List Int}{t:Int}:(cs++[t]).getD cs.length 0=t:=by
 refine aa (aQ ..) (aa (List.getElem?_append_right (aU _) ..) (aa (Nat.sub_self ..) ?_));rfl
theorem rz (cs:List Int) (t:Int):(List.range cs.length).map (fun x=>(cs++[t]).getD x 0)=cs:=by
 apply List.ext_getElem?
 intro i;refine aa (List.getElem?_map ..) ?_;by_cases h:i<cs.length
 ·refine aa (List.getElem?_range h ..) (aa (au h ..) ?_);show some ((cs++[t]).getD i 0)=_;refine aa (gY h ..) (aa (aQ ..) (aa (au h ..) ?_));rfl
 ·refine aa (List.getElem?_eq_none (by simpa using h) ..) (aa (List.getElem?_eq_none (by simpa using h) ..) ?_);rfl
section
variable {C:Cs}{d:List Nat}{k:Nat}(K:Dx d) (hd:d.length=k+1) (ht:C.taken=List.range k) (hn:C.n=k) (h4:k<=4) (hv:0<=C.value/\C.value<8) (S:dH C d)
include hd in
theorem lJ {x:Nat}(hx:x<k):(jH d k)[x]?=some (cv d x):=by
 unfold jH;refine aa (List.getElem?_map ..) (aa (List.getElem?_range hx ..) ?_);rfl
include hd ht hn in
theorem wC {cs:List Int}{t:Int}(hl:cs.length=k) (hc:∀ x,x<k->cs.getD x 0∈bk (cv d x)) (h1:t∈bk (cv d k)) (h2:(cs.countP (fun c=>decide (c=C.value)):Int)=t):(cs++[t]).length=d.length/\fY d (cs++[t])/\d6 C (cs++[t]):=by
 refine ⟨by refine aa (ai ..) (aa (hl ..) (aa (hd ..) ?_));rfl,fun x m h=>?_,?_⟩
 ·have hx:=bj h;rw [bU hx] at h;refine bp h ?_;by_cases hk:x<k
  ·refine aa (gY (ze hl hk) ..) ?_;exact hc x hk
  ·have:x=cs.length:=Lf hd hl hx hk;refine aa (this ..) (aa (gX ..) (aa (hl ..) ?_));exact h1
 ·unfold d6 oW;refine aa (ht ..) (aa (hn ..) (aa (aH (hl ..)) (aa (gX ..) (aa (aH (h2 ..)) ?_))));congr 1;have:=List.countP_map (p:=fun c=>decide (c=C.value)) (f:=fun x=>(cs++[t]).getD x 0) (l:=List.range cs.length);rw [rz] at this;rw [h2] at *;exact this.symm
include K hd ht hn h4 hv S
theorem yp:∀ x∈C.taken++[C.n],∀ u∈bk (cv d x),∃ a:cI,a.length=d.length/\fY d a/\d6 C a/\a.getD x 0=u:=by
 intro x hx u hu;have R:=Al K hd ht hn h4 hv S;have hmk:=K.m k (EJ hd);have M:=rE K hd ht hn h4 hv S;have ml:(jH d k).length=k:=by unfold jH;simp
 rcases aN.mp hx with hx | hx
 ·rw [ht] at hx;have hxk:=List.mem_range.mp hx;have hmx:=K.m x (ER hd hxk);refine be (kf hv) fun w hw=>?_;have O1:=Nv ⟨_,hmx.2⟩ u hu;have O2:=DS w ⟨_,hmx.2⟩ u hu;rw [← hw] at O2;have c1:=iV (p:=hM C.value) (a:=one u) (lJ hd hxk);have c2:=iV (p:=oM C.value) (a:=one u) (lJ hd hxk);rw [O2.1] at c1;rw [O2.2] at c2;have hex:∃ t:Nat,(t:Int)∈bk (cv d k)/\((jH d k).set x (one u)).countP (hM C.value)<=t/\t<=((jH d k).set x (one u)).countP (hM C.value)+((jH d k).set x (one u)).countP (oM C.value):=by
   have hon:=Bk K hd ht hn h4 hv S;have r1:=R _ (rN hmk);have r2:=R _ (ew hmk)
   induction ho:oM C.value (cv d x) using Oz with
   | true =>
    have hh:hM C.value (cv d x)=false:=by
     induction hh:hM C.value (cv d x) using Oz with
     | false=>rfl
     | true=>unfold oM at ho;rw [hh] at ho;exact aM ho
    have hpos:0<(jH d k).countP (oM C.value):=List.countP_pos_iff.mpr ⟨_,List.mem_of_getElem? (lJ hd hxk),ho⟩;have hon:=hon hpos;rw [hh] at c1;rw [ho] at c2;simp at c1 c2;by_cases hu':u=C.value
    ·rw [if_pos hu'] at c1;refine ⟨(hi (cv d k)).toNat,?_,?_,?_⟩
     ·refine aa (Int.toNat_of_nonneg (Le hon) ..) ?_;exact rN hmk
     ·exact Ld hon c1
     ·exact Lc r1 c1 c2
    ·rw [if_neg hu'] at c1;refine ⟨(lo (cv d k)).toNat,?_,?_,?_⟩
     ·refine aa (Int.toNat_of_nonneg (Hu r2) ..) ?_;exact ew hmk
     ·exact Lb r2 c1
     ·exact La hon c1 c2
   | false =>
    rw [ho] at c2;have e:(if hM C.value (cv d x)=true then 1 else 0)=(if decide (u=C.value)=true then 1 else 0):=by
     induction hh:hM C.value (cv d x) using Oz with
     | true =>
      rw [hw] at hh;have:=rO w ⟨_,hmx.2⟩ (bg.mp hmx.1) hh u hu;rw [← hw] at this;exact aa (aA this ..) rfl
     | false =>
      have:u≠C.value:=by
       rintro rfl
       unfold oM bM at ho;rw [hh,aA hu] at ho;exact cg ho
      exact aa (decide_eq_false this ..) rfl
    rw [e] at c1;refine ⟨(lo (cv d k)).toNat,?_,?_,?_⟩
    ·refine aa (Int.toNat_of_nonneg (Hu r2) ..) ?_;exact ew hmk
    ·exact K9 c1 r2
    ·simp at c2;exact K8 c1 r2 c2
  refine bH hex fun t t1 t2 t3=>?_;clear hex;obtain ⟨cs,l,g,q⟩:=vY hv ((jH d k).set x (one u)) (fun m hm=>by
   rcases List.mem_or_eq_of_mem_set hm with hm | rfl
   ·exact M m hm
   ·exact ⟨O1.1,O1.2.1⟩) t t2 t3
  rw [aF,ml] at l;have hgx:cs.getD x 0=u:=by
   have:=g x (one u) (List.getElem?_set_self (by exact aa (ml ..) (hxk)));rw [O1.2.2] at this;exact an.mp this
  have hc:∀ y,y<k->cs.getD y 0∈bk (cv d y):=by
   intro y hy;by_cases hxy:x=y
   ·subst hxy;refine aa (hgx ..) ?_;exact hu
   ·exact g y _ ((ae hxy).trans (lJ hd hy))
  have A:=wC hd ht hn l hc t1 (aa (q ..) (by rfl));exact ⟨cs++[(t:Int)],A.1,A.2.1,A.2.2,by refine aa (gY (zg hxk l) ..) ?_;exact hgx⟩
 ·rw [an.mp hx,hn] at hu ⊢;have r:=R u hu;refine bH (vY hv (jH d k) M u.toNat (Ap r) (wJ r)) fun cs l g q=>?_;rw [ml] at l;have A:=wC hd ht hn l (fun y hy=>g y _ (lJ hd hy)) hu (by exact aa (q ..) (K7 r));exact ⟨cs++[u],A.1,A.2.1,A.2.2,by refine aa (aH (l ..)) ?_;exact gX⟩
end
noncomputable def fu (kd:Bool) (C:Cs) (Z:ag):Prop:=match kd with
 | true=>AC C Z
 | false=>AN C Z
noncomputable def o8 (kd:Bool) (C:Cs) (d:List Nat):Prop:=match kd with
 | true=>dH C d
 | false=>eS C d
noncomputable def jG (kd:Bool) (C:Cs) (a:cI):Prop:=match kd with
 | true=>d6 C a
 | false=>eC C a
theorem fu.fr {kd:Bool}{C:Cs}{w:b8}{Z Z':ag}(h:fu kd C Z) (W:Wk w) (f:Fr w Z Z'):fu kd C Z':=by
 induction kd using Oz with
 | true=>exact AC.fr h W f
 | false=>exact AN.fr h W f
theorem fu.app {kd:Bool}{C:Cs}{Z l:ag}(h:fu kd C Z):fu kd C (Z++l):=by
 induction kd using Oz with
 | true=>exact ⟨(fg (bj (AC.a h))).trans (AC.a h),(fg (bj (AC.i h))).trans (AC.i h)⟩
 | false=>exact AN.app h
section
variable {c:d8}{n:Nat}{ρ ρ':aL}{Z Z1 Z2:ag}{e e' t:Expr}{es:List Expr}{rest:List Stmt}{p:Pos}{d:Bool}{v:V}{Q:Fl->aL->ag->Prop}
theorem sN (h:ev c n ρ Z e=some (.bool false,Z1)):evb c (n+1) ρ Z .And (e::e'::es)=some (.bool false,Z1):=by
 show (ev c n ρ Z e).bind _=_;refine aa (h ..) ?_;rfl
theorem sM (h:ev c n ρ Z e=some (.bool true,Z1)):evb c (n+1) ρ Z .And (e::e'::es)=evb c n ρ Z1 .And (e'::es):=by
 show (ev c n ρ Z e).bind _=_;refine aa (h ..) ?_;rfl
theorem Ae {x:Str}{k:Nat}{l:List V}(hz:c.frz p.line=[x]) (hl:lk x ρ=some (.own k)) (hc:Z[k]?=some (.lst l)) (h:ev c n (st x (.lst l) ρ) (Z.set k .dead) e=some (v,Z1)) (h2:pn c n (st x (.lst l) ρ) Z1 v t=some (ρ',Z2)) (q:Xs c (n+1) ρ' Z2 rest Q):Xs c (n+2) ρ Z (.Assign [t] e p::rest) Q:=by
 have e0:cB c (n+2) ρ Z (.Assign [t] e p::rest)=(ex c (n+1) (fh ρ Z (c.frz p.line)).1 (fh ρ Z (c.frz p.line)).2 (.Assign [t] e p)).bind fun (fl,ρ,Z)=>match fl with
  | .next=>cB c (n+1) ρ Z rest
  | .ret w=>some (.ret w,ρ,Z):=rfl
 have u:iD Z (.own k)=(.lst l,Z.set k .dead):=by
  show (match Z[k]? with | some (.lst l)=>(V.lst l,Z.set k .dead) | _=>(.own k,Z))=_;exact aa (hc ..) rfl
 have f:fh ρ Z (c.frz p.line)=(st x (.lst l) ρ,Z.set k .dead):=by
  refine aa (hz ..) ?_;show ((match lk x ρ with | some v=>(st x (iD Z v).1 ρ,(iD Z v).2) | none=>(ρ,Z)).1,(match lk x ρ with | some v=>(st x (iD Z v).1 ρ,(iD Z v).2) | none=>(ρ,Z)).2)=_;refine aa (hl ..) ?_;show ((st x (iD Z (.own k)).1 ρ,(iD Z (.own k)).2))=_;exact aa (u ..) rfl
 refine cp q fun fl ρd Z3 h3 h4=>?_;clear q;refine ⟨fl,ρd,Z3,?_,h4⟩;refine aa (e0 ..) (aa (f ..) ?_);show (ex c (n+1) (st x (.lst l) ρ) (Z.set k .dead) (.Assign [t] e p)).bind _=_;have e1:ex c (n+1) (st x (.lst l) ρ) (Z.set k .dead) (.Assign [t] e p)=some (.next,ρ',Z2):=by
  show (ev c n (st x (.lst l) ρ) (Z.set k .dead) e).bind _=_;refine aa (h ..) ?_;show (pn c n (st x (.lst l) ρ) Z1 v t).map _=_;refine aa (h2 ..) ?_;rfl
 refine aa (e1 ..) ?_;exact h3
end
theorem o6 {Z:ag}{b:Bool}:eG Z (.builtin "repr") [.lst [.bool b]]=some (.str (if b then T "[True]" else T "[False]")):=rfl
theorem kO (b:Bool):ok 16 (.str (if b then T "[True]" else T "[False]")):=⟨by induction b using Oz<;>decide +kernel,rfl⟩
structure dT (D:bC) (w:b8) (Z:ag):Prop where
 ask:fu D.kd D.C Z
 O:i7 D.C w
 hA:∀ a∈D.ans,jG D.kd D.C a
 hB:i5 D.ans w.doms.length
 K:sH D w.doms.length Z
 full:∀ a:cI,a.length=w.doms.length->fY w.doms a->jG D.kd D.C a->a∈D.ans
 un:D.un=true->∃ k,D.C.taken=List.range k/\D.C.n=k/\w.doms.length=k+1
theorem mH {n:Nat}{Z:ag}{w:b8}{D:bC}(H:SH w Z) (W:Ws w) (hf:w.failed=false) (G:fu D.kd D.C Z) (O:i7 D.C w) (hA:∀ a∈D.ans,jG D.kd D.C a) (hB:i5 D.ans w.doms.length) :
  ∃ ok w' Z',SH w' Z'/\Fr w Z Z'/\sF D.ans w (o8 D.kd D.C) ok w'/\∀ {N:Nat}{ρ:aL}{p p2 p3 p4:Pos},lk (T "asker") ρ=some (.own 11)->lk (T "store") ρ=some (.own 2)->ev (bD (n+9)) (N+5) ρ Z (.Call (.Attribute (.Name (T "asker") p) (T "propagate") p2) [.Name (T "store") p3] [] p4)=some (.bool ok,Z'):=by
 have nm:∀ {N:Nat}{ρ:aL}{x:Str}{v:V}{p:Pos}{τ:ag},lk x ρ=some v->ev (bD (n+9)) (N+1) ρ τ (.Name x p)=some (v,τ):=by
  intro N ρ x v p τ h;show (match lk x ρ with | some v=>some (v,τ) | none=>(lk x G0).map (·,τ))=_;exact aa (h ..) rfl
 induction hk:D.kd using Oz with
 | true =>
  rw [hk] at G hA;refine bQ (DK (n:=n+1) H W G O hf hA) fun ζ Z' e Q0=>?_;refine bK (Q0) fun ok w' Q1 H' F' U=>?_;clear Q0;subst Q1;exact ⟨ok,w',Z',H',F',U,fun h1 h2=>zJ (C:=D.C) G (nm h1) rfl rfl (ap (v:=.own 2) (nm h2) b0) e⟩
 | false =>
  rw [hk] at G hA;refine bQ (DJ (n:=n) G O hA hB H W hf) fun ζ Z' e Q2=>?_;refine bK (Q2) fun ok w' Q3 H' F' U=>?_;clear Q2;subst Q3;exact ⟨ok,w',Z',H',F',U,fun h1 h2=>m5 (C:=D.C) G (nm h1) rfl rfl (ap (v:=.own 2) (nm h2) b0) e⟩
theorem gn {d:List Nat}{a:cI}(h:a.length=d.length):er d a=true↔fY d a:=by
 unfold er fY;rw [List.all_eq_true]
 constructor
 ·intro hz x m hx;have hl:=bj hx;have:(a.zip d)[x]?=some (a.getD x 0,m):=by
   rw [List.getElem?_zip_eq_some];exact ⟨by refine aa (aQ ..) (aa (au (ze h hl) ..) ?_);rfl,hx⟩
  exact ao (hz _ (List.mem_of_getElem? this))
 ·intro hw p hp;refine be (List.mem_iff_getElem?.mp hp) fun x hx=>?_;rw [List.getElem?_zip_eq_some] at hx;have:=hw x p.2 hx.2;rw [oJ hx.1] at this;exact aA this
theorem MJ {c:d8}{n:Nat}{ρ:aL}{Z:ag}{b:List Stmt}{w:b8}{P:Int->b8->Prop}(H:SH w Z) (h:Xs c n ρ Z b fun fl ζ Z'=>∃ r w',fl=.ret (.int r)/\SH w' Z'/\(w'.kM=w.kM/\w'.kN=w.kN)/\Z.length<=Z'.length/\(∀ i,i<Z.length->i≠1->i≠3->i≠4->i≠5->i≠w.kM->i≠w.kN->Z'[i]?=Z[i]?)/\P r w') :
  ∃ v Z',cL false Z (cB c n ρ Z b)=some (v,Z')/\∃ r w',v=.int r/\SH w' Z'/\Fr w Z Z'/\P r w':=by
 refine cp h fun fl ρ' Z' h1 Q0=>?_;clear h;refine iU (Q0) fun r w' Q1 H' hk hl F p=>?_;clear Q0;subst Q1;refine bl (trunc H H' hk.1 hk.2 hl F) fun H2 F2=>?_;refine ⟨.int r,Z'.take Z.length,?_,r,w',rfl,H2,F2,p⟩;refine aa (h1 ..) ?_;show (if false=true then some (V.int r,Z') else if (Z'.take Z.length).all (mN Z.length)&&cO Z.length (gI Z' Z.length (.int r)) then some (gI Z' Z.length (.int r),Z'.take Z.length) else none)=_;have:=H2.ok;unfold dI at this;rw [F2.len] at this;refine aa (if_neg (by simp) ..) (aa (this ..) ?_);rfl
noncomputable def u6 (m:Int) (lv bv:V) (o:Option cI) (st:Option Bool) (s:Option Int):aL:=[(T "store",.own 2),(T "asker",.own 11),(T "case",.own 9),(T "mark",.int m),(T "left",lv),(T "boxes",bv)]++(match o with | none=>[] | some a=>[(T "answer",bT a)])++(match st with | none=>[] | some b=>[(T "stands",.bool b)]++(match s with | none=>[] | some s=>[(T "spot",.int s)]))
noncomputable def MY (D:bC) (w:b8) (r:Int) (w':b8):Prop:=(r=1\/r=2)/\Gd D.ans w w'/\Ws w'/\(r=1->w'.failed=false/\o8 D.kd D.C w'.doms)
theorem dT.gd {D:bC}{w w':b8}{Z Z':ag}(A:dT D w Z) (W:Wk w) (h:Gd D.ans w w') (F:Fr w Z Z'):dT D w' Z':=by
 refine ⟨A.ask.fr W F,A.O.gd h,A.hA,h.len▸A.hB,⟨?_,h.len▸A.K.l,h.len▸A.K.ans,A.K.num⟩,fun a h1 h2 h3=>A.full a (h1.trans h.len) ?_ h3,fun hu=>by refine bH (A.un hu) fun k h1 h2 h3=>?_;exact ⟨k,h1,h2,h.len.trans h3⟩⟩
 ·have hM:=W.kM.ne;have hN:=W.kN.ne;exact (F.at' 9 (by decide) (by decide) (by decide) (by decide) (DC hM) (DC hN)).trans A.K.at'
 ·intro x m hx;have hl:x<w'.doms.length:=by refine aa (h.len ..) ?_;exact bj hx
  refine aB (h.sub x _ (au hl)) fun m0 e1 e2=>?_;rw [hx] at e1;(have q_:=aq e1;clear e1;subst q_);exact e2 _ (h2 x _ (au hl))
theorem dT.app {D:bC}{w:b8}{Z l:ag}(A:dT D w Z):dT D w (Z++l) :=
 ⟨A.ask.app,A.O,A.hA,A.hB,⟨(fg (bj A.K.at')).trans A.K.at',A.K.l,A.K.ans,A.K.num⟩,A.full,A.un⟩
section
variable {n:Nat}{Z:ag}{w:b8}{D:bC}(H:SH w Z) (W:Ws w) (hf:w.failed=false) (A:dT D w Z)
include H W hf A
theorem pJ:Ends (n+10) 523 [.own 2,.own 11,.own 9] Z (fun v Z'=>∃ r w',v=.int r/\SH w' Z'/\Fr w Z Z'/\MY D w r w'):=by
 show ∃ u Z',cL false Z (cB (bD (n+9)) 200 [(T "store",.own 2),(T "asker",.own 11),(T "case",.own 9)] Z (bd 39))=some (u,Z')/\_
 let L:=D.ans.filter fun a=>er w.doms a
 have H0:∀ {l:List cI},SH w (Z++[.lst (l.map bT)]):=fun {l}=>gr H (bw (fun ζ=>kX _) l);have A0:∀ {c:Cell},dT D w (Z++[c]):=A.app;refine MJ H (P:=MY D w) (bu rfl (v:=.tup [.int w.tr.length,.own Z.length]) (Z1:=Z++[.lst (([]:List cI).map bT)]) (cf (ap ((cW (i:= "len") rfl (am (dX H rfl rfl rfl)) (cG (cD H.t) W.trl)).trans (by exact aa (ah ..) (by rfl))) (am (dz b0 rfl)))) (fR rfl) (bu rfl (bx rfl (am rfl) (jj H0 W)) (ρ':=u6 w.tr.length (.own Z.length) (cA w.doms) none none none) rfl (dg rfl rfl (dF rfl rfl rfl A0.K.at' rfl) (bB (aI A.K.num)) ?_)));refine cm (enc:=bT) (fun r ρ Z'=>∃ o done,ρ=u6 w.tr.length (.own Z.length) (cA w.doms) o none none/\Z'=Z++[.lst ((done.filter fun a=>er w.doms a).map bT)]/\done++r=D.ans) ⟨none,[],rfl,rfl,rfl⟩ ?_ ?_
 ·intro ρ;intro _;intro Q0;refine bG (Q0) fun o done Q1 Q2 e=>?_;clear Q0;subst Q1;subst Q2;rw [List.append_nil] at e;subst e;have hL:∀ a∈L,a∈D.ans/\fY w.doms a:=fun a ha=>⟨(aV.mp ha).1,(gn (A.K.ans a (aV.mp ha).1)).mp (aV.mp ha).2⟩;have hLn:L.length<=1000:=af (List.length_filter_le _ _) A.K.num;have A1:dT D w (Z++[.dead]):=A.app;refine cM (mH (n:=n) (gr (c:=.dead) H rfl) W hf A1.ask A.O A.hA A.hB) fun ok w' Z' H' F' U hcall=>?_;have A':dT D w' Z':=A1.gd W.toWk U.gd F';have fr:Z.length<=Z'.length/\∀ i,i<Z.length->i≠1->i≠3->i≠4->i≠5->i≠w.kM->i≠w.kN->Z'[i]?=Z[i]?:=⟨by refine aa (F'.len ..) (aa (ez ..) ?_);exact y7,fun i hi h1 h3 h4 h5 hM hN=>(F'.at' i h1 h3 h4 h5 hM hN).trans (fg hi)⟩;refine Ae (x:=T "left") rfl (k:=Z.length) (l:=L.map bT) (rfl) bJ (by refine aa (eP ..) ?_;exact hcall (rfl) (rfl)) (ρ':=u6 w.tr.length (.lst (L.map bT)) (cA w.doms) o (some ok) none) (by exact bz o rfl fun ζ=>rfl) ?_;have hfl:lk (T "is_failed") (pk w')=some (.bool (!ok)):=by refine aa (aH (U.fl ..)) ?_;rfl
  refine bW rfl (d:=false) (bq (cW (i:= "repr") (by exact bz o rfl fun ζ=>rfl) (am (fI (am (v:=.bool ok) (by exact bz o rfl fun ζ=>rfl)) rfl)) o6) (cW (i:= "repr") (by exact bz o rfl fun ζ=>rfl) (am (fI (am (di (dX H' (rfl) rfl hfl))) rfl)) o6) (mq (d:=true) rfl rfl (kO _) (kO _) ⟨fun ζ=>by exact aa (Bool.not_not ..) (by rfl),fun ζ=>rfl⟩)) (fun h=>nomatch h) fun ζ=>aY ?_;have el:∀ {N:Nat}{s:Option Int}{mm:Int}{bb:V}{p p2 p3 p4:Pos},ev (bD (n+9)) (N+5) (u6 mm (.lst (L.map bT)) bb o (some ok) s) Z' (.Call (.Name (T "len") p) [.Attribute (.Name (T "store") p2) (T "trail") p3] [] p4)=some (.int w'.tr.length,Z'):=fun {N s mm bb p p2 p3 p4}=>(cW (i:= "len") (by exact bz o (bz s rfl fun ζ=>rfl) fun ζ=>bz s rfl fun ζ=>rfl) (am (dX H' (rfl) rfl rfl)) (cG (cD H'.t) U.ws.trl)).trans (by exact aa (ah ..) (by rfl));have T1:w.tr.length<=100:=by have:=W.tr;exact BD this
  have T2:w'.tr.length<=100:=by have:=U.ws.tr;exact BD this
  have T3:=U.gd.le;refine dg rfl rfl (fj (i:= "range") (by exact bz o rfl fun ζ=>rfl) (ap (v:=.int w.tr.length) (rfl) (am el)) rfl) (dy ⟨by unfold lim;exact BC T1,by unfold lim;exact BC T2⟩) ?_;refine cm (enc:=fun k:Nat=>V.int ((w.tr.length:Int)+(k:Int))) (fun r ρ τ=>∃ s,ρ=u6 w.tr.length (.lst (L.map bT)) (cA w.doms) o (some ok) s/\τ=Z'/\∀ k∈r,k<w'.tr.length - w.tr.length) ⟨none,rfl,rfl,fun k hk=>by have:=List.mem_range.mp hk;exact Im this⟩ ?_ ?_
  ·intro ρ;intro τ;intro Q3;refine bH (Q3) fun s Q4 hτ ζ=>?_;clear Q3;subst Q4;subst τ;have leftE:∀ {N:Nat}{mm:Int}{bb:V}{s:Option Int}{p:Pos}{τ:ag},ev (bD (n+9)) (N+1) (u6 mm (.lst (L.map bT)) bb o (some ok) s) τ (.Name (T "left") p)=some (.lst (L.map bT),τ):=fun {N mm bb s p τ}=>by induction o using Oy<;>induction s using Oy<;>rfl
   have ceL:∀ {τ:ag},mj τ .Eq (.lst (L.map bT)) (.lst [])=some (decide (L=[])):=fun {τ}=>mr (a':=.lst (L.map bT)) (b':=.lst (([]:List cI).map bT)) rfl rfl (eJ te _) (eJ te []) (by rw [decide_eq_true_iff];exact ⟨fun h=>by exact aa (h ..) (by rfl),fun h=>jr x9 (V.lst.inj h)⟩)
   induction ok using Oz with
   | false =>
    refine bl (U.bad rfl) fun hc hS=>?_;have hLe:L=[]:=by
     refine List.eq_nil_iff_forall_not_mem.mpr fun a ha=>?_;have hw:=U.gd.keep a (hL a ha).1 (hL a ha).2;refine aB (hc.2.2 a (hL a ha).1) fun r hr hm=>?_;refine bG (hc.2.1 r hr) fun x m h1 h2 h3=>?_;have:=h3 _ (hw x m h2);unfold fC at hm;rw [h1] at hm;rw [show ((x:Nat):Int).toNat=x from rfl,this] at hm;exact cg hm
    refine bW rfl (d:=true) (di (d:=false) (by exact bz o (bz s rfl fun ζ=>rfl) fun ζ=>bz s rfl fun ζ=>rfl)) (fun ζ=>bo (v:=.int 2) rfl (oR (d:=true) (fP (d:=true) (d':=true) ((bq leftE (fI b0 rfl) ceL).trans (by exact aa (aA hLe ..) (by rfl))) (fun ζ=>bx (a:=513) (by exact bz o (bz s rfl fun ζ=>rfl) fun ζ=>bz s rfl fun ζ=>rfl) (ap (v:=.own 2) (rfl) (am (v:=.own 9) (rfl))) (vH H' U.ws A'.K hc)) (fun h=>nomatch h)) (fun ζ=>rfl) fun h=>nomatch h) ⟨2,w',rfl,H',⟨U.gd.same.2.2.1,U.gd.same.2.2.2⟩,fr.1,fr.2,.inr rfl,U.gd,U.ws,(fun h=>by lia)⟩) fun h=>nomatch h
   | true =>
    refine bl (U.good rfl) fun hS ζ=>?_;have hLw:∀ a∈L,er w'.doms a=true:=fun a ha=>(gn (by refine aa (U.gd.len ..) ?_;exact A.K.ans a (hL a ha).1)).mpr (U.gd.keep a (hL a ha).1 (hL a ha).2);have wl:=U.ws.len;refine bW rfl (d:=false) (di (d:=true) (by exact bz o (bz s rfl fun ζ=>rfl) fun ζ=>bz s rfl fun ζ=>rfl)) (fun h=>nomatch h) fun ζ=>aY ?_;refine bu rfl (bx (a:=484) (by exact bz o (bz s rfl fun ζ=>rfl) fun ζ=>bz s rfl fun ζ=>rfl) (am (v:=.own 2) (rfl)) (jj H' U.ws)) (ρ':=u6 w.tr.length (.lst (L.map bT)) (cA w'.doms) o (some true) s) (rfl) ?_;have e2:(L.filter fun a=>!er w'.doms a)=[]:=List.filter_eq_nil_iff.mpr fun a ha=>by refine aa (hLw a ha ..) ?_;simp
    refine bW rfl (d:=false) (bq (w:=.lst []) ((cN (enc:=bT) (as:=L) (g:=fun a=>if !er w'.doms a then [bT a] else []) leftE (bB (aI hLn)) (fun a ha=>ce (d:=!er w'.doms a) (ρ':=st (T "answer") (bT a) (u6 w.tr.length (.lst (L.map bT)) (cA w'.doms) o (some true) s)) rfl (fG (di (bx (a:=491) (by exact bz o (bz s rfl fun ζ=>rfl) fun ζ=>bz s rfl fun ζ=>rfl) (ap (v:=bT a) (by exact bz o (bz s rfl fun ζ=>rfl) fun ζ=>bz s rfl fun ζ=>rfl) (am (v:=cA w'.doms) (rfl))) (np H'.ok (by refine aa (U.gd.len ..) ?_;exact A.K.ans a (hL a ha).1))))) fun ζ=>(by exact bz o (bz s rfl fun ζ=>rfl) fun ζ=>bz s rfl fun ζ=>rfl)) rfl).trans (by exact aa (bV ..) (by rfl))) (fI b0 rfl) (mq (d:=true) (a':=.lst (([]:List cI).map bT)) (b':=.lst []) (by refine aa (e2 ..) ?_;rfl) rfl (eJ te []) ⟨rfl,rfl⟩ ⟨fun ζ=>rfl,fun ζ=>rfl⟩)) (fun h=>nomatch h) fun ζ=>aY ?_;have noFix:L=[]->(w'.doms.filter fun m=>decide (1<(bk m).length))≠[]:=by
     intro hLe hz;have hfx:∀ m∈w'.doms,fx m=true:=by
      intro m hm;have h1:=List.filter_eq_nil_iff.mp hz m hm;have h2:=U.ws.dom m hm;have h3:bk m≠[]:=(tH ⟨m,h2.2⟩).2.1.mp (bg.mp h2.1);have h4:=List.length_pos_iff.mpr h3;have h1:¬1<(bk m).length:=fun h=>h1 (aA h);unfold fx;rw [beq_iff_eq];exact Il h4 h1
     have O':=A'.O;have hm:jG D.kd D.C (pt w'.doms):=by
      have hS':=hS
      induction hk:D.kd using Oz with
      | true=>rw [hk] at hS';exact v3 U.ws.dok O'.x O'.n O'.len hfx hS'
      | false=>rw [hk] at hS';exact DP U.ws.dok O'.x O'.n O'.len hfx hS'
     have pw:fY w'.doms (pt w'.doms):=fun x m hx=>by
      have hl:=bj hx;refine aa (pO hl ..) ?_;rw [bU hl] at hx;refine bp hx ?_;exact ew (U.ws.m hl)
     have pl:(pt w'.doms).length=w'.doms.length:=ah _;have pA:=A'.full _ pl pw hm;have:pt w'.doms∈L:=by
      refine aV.mpr ⟨pA,(gn (by exact aa (pl ..) (aa (U.gd.len ..) (by rfl)))).mpr fun x m hx=>?_⟩;have hl:x<w'.doms.length:=by refine aa (U.gd.len ..) ?_;exact bj hx
      refine aB (U.gd.sub x _ (bU hl)) fun m0 q1 q2=>?_;rw [hx] at q1;(have q_:=aq q1;clear q1;subst q_);exact q2 _ (pw x _ (bU hl))
     rw [hLe] at this;cases this
    have okI15:∀ m:Nat,ok 15 (co (bk m)):=fun m=>eJ Ny _;refine bW rfl (d:=false) ((fP (d:=decide (L=[])) (d':=false) (bq leftE (fI b0 rfl) ceL) (fun hd=>?_) fun ζ=>⟨rfl,rfl⟩).trans (by exact aa (Bool.and_false ..) (by rfl))) (fun h=>nomatch h) fun ζ=>aY ?_
    ·have ne:=noFix (ao hd);refine bq (w:=.lst []) ((cN (enc:=fun m=>co (bk m)) (as:=w'.doms) (g:=fun m=>if decide (1<(bk m).length) then [co (bk m)] else []) (v:=cA w'.doms) (rfl) (bB (aI (jJ wl))) (fun m hm=>ce (d:=decide (1<(bk m).length)) (ρ':=st (T "box") (co (bk m)) (u6 w.tr.length (.lst (L.map bT)) (cA w'.doms) o (some true) s)) rfl (fG (bq ((cW (i:= "len") (by exact bz o (bz s rfl fun ζ=>rfl) fun ζ=>bz s rfl fun ζ=>rfl) (am (v:=co (bk m)) (by exact bz o (bz s rfl fun ζ=>rfl) fun ζ=>bz s rfl fun ζ=>rfl)) (cG rfl (aI (by have:=i9 (U.ws.dom m hm).2;exact Bz this)))).trans (by exact aa (ah ..) (by rfl))) rfl (zR (by rw [decide_eq_decide];lia)))) fun ζ=>(by exact bz o (bz s rfl fun ζ=>rfl) fun ζ=>bz s rfl fun ζ=>rfl)) rfl).trans (by exact aa (bV ..) (by rfl))) (fI b0 rfl) (mr (d:=false) (a':=.lst ((w'.doms.filter fun m=>decide (1<(bk m).length)).map fun m=>co (bk m))) (b':=.lst []) rfl rfl (eJ okI15 _) ⟨rfl,rfl⟩ ⟨(fun h=>nomatch h),fun h=>absurd (List.map_eq_nil_iff.mp (V.lst.inj h)) ne⟩)
    have inL:∀ a:cI,a.length=w'.doms.length->fY w'.doms a->jG D.kd D.C a->a∈L:=by
     intro a pl pw hm;refine aV.mpr ⟨A'.full _ pl pw hm,(gn (by exact aa (pl ..) (aa (U.gd.len ..) (by rfl)))).mpr fun x m hx=>?_⟩;have hl:x<w'.doms.length:=by refine aa (U.gd.len ..) ?_;exact bj hx
     refine aB (U.gd.sub x _ (bU hl)) fun m0 q1 q2=>?_;rw [hx] at q1;(have q_:=aq q1;clear q1;subst q_);exact q2 _ (pw x _ (bU hl))
    have ck:∀ {N:Nat}{x:Str}{b:Bool}{p p2 p3:Pos}{z:Nat},lk x (fq D)=some (.bool b)->ev (bD (n+9)) (N+2) (u6 w.tr.length (.lst (L.map bT)) (cA w'.doms) o (some true) s) Z' (.Subscript (.Name (T "case") p) (.Constant (.str x) z p2) p3)=some (.bool b,Z'):=fun {N x b p p2 p3 z} h=>dF rfl (v:=.bool b) (k:=9) (rfl) rfl A'.K.at' h;refine bW rfl (Z1:=Z') (d:=false) (oS.trans ?_) (fun h=>nomatch h) fun ζ=>aY ?_
    ·induction hk:D.kd using Oz with
     | false=>exact sN (ck (by refine aa (aH (hk ..)) ?_;rfl))
     | true =>
      refine (sM (ck (by refine aa (aH (hk ..)) ?_;rfl))).trans ?_
      induction hu:D.un using Oz with
      | false=>exact sN (ck (by refine aa (aH (hu ..)) ?_;rfl))
      | true =>
       refine (sM (ck (by refine aa (aH (hu ..)) ?_;rfl))).trans ?_;refine bH (A'.un hu) fun k h1 h2 h3=>?_;have hS':=hS;rw [hk] at hS';have hk4:k<=4:=by have:=A'.O.len;rw [h1,List.length_range] at this;exact this
       have sp:=ob (n:=n+8) H' U.ws A'.K (left:=L) ⟨A'.O.len,A'.O.x,A'.O.n,A'.K.l⟩ (fun a ha=>A'.K.ans a (hL a ha).1) hLn (fun x hx v hv=>by
        refine ij (yp U.ws.dok h3 h1 h2 hk4 A'.O.v hS' x hx v hv) fun a q1 q2 q3 q4=>?_;exact ⟨a,inL a q1 q2 (by refine aa (hk ..) ?_;exact q3),q4⟩)
       exact sL (di (d:=true) (bx (a:=518) (by exact bz o (bz s rfl fun ζ=>rfl) fun ζ=>bz s rfl fun ζ=>rfl) (ap (v:=.own 9) (rfl) (ap (v:=cA w'.doms) (rfl) (am leftE))) sp))
    ·refine bu rfl el (ρ':=u6 w'.tr.length (.lst (L.map bT)) (cA w'.doms) o (some true) s) (rfl) ?_;refine cM (mH (n:=n) H' U.ws U.fl A'.ask A'.O A'.hA A'.hB) fun ok2 wa Z2 H2 F2 U2 hcall2=>?_
     induction ok2 using Oz with
     | false=>exact absurd hS (U2.bad rfl).2
     | true =>
      have e3:=(U2.good rfl).2 hS;subst e3;have fr2:∀ i,i<Z.length->i≠1->i≠3->i≠4->i≠5->i≠w.kM->i≠w.kN->Z2[i]?=Z[i]?:=fun i hi h1 h3 h4 h5 hM hN=>(F2.at' i h1 h3 h4 h5 (by refine aa (U.gd.same.2.2.1 ..) ?_;exact hM) (by refine aa (U.gd.same.2.2.2 ..) ?_;exact hN)).trans (fr.2 i hi h1 h3 h4 h5 hM hN);refine bo (v:=.int 1) rfl (oR (d:=true) (fP (d:=true) (d':=true) (hcall2 (rfl) (rfl)) (fun ζ=>(bq (v:=.int wa.tr.length) (w:=.int wa.tr.length) ?_ (rfl) dG).trans (by exact aa (aA rfl ..) (by rfl))) (fun h=>nomatch h)) (fun ζ=>rfl) fun h=>nomatch h) ⟨1,wa,rfl,H2,⟨U.gd.same.2.2.1,U.gd.same.2.2.2⟩,by refine aa (F2.len ..) ?_;exact fr.1,fr2,.inl rfl,U.gd,U.ws,fun ζ=>⟨U.fl,hS⟩⟩;exact (cW (i:= "len") (by exact bz o (bz s rfl fun ζ=>rfl) fun ζ=>bz s rfl fun ζ=>rfl) (am (dX H2 (rfl) rfl rfl)) (cG (cD H2.t) U.ws.trl)).trans (by exact aa (ah ..) (by rfl))
  ·intro k;intro r;intro ρ;intro τ;intro Q5;refine bH (Q5) fun s Q6 hτ hr=>?_;clear Q5;subst Q6;subst τ;have hk:=hr k (.head _);have hlt:w.tr.length+k<w'.tr.length:=Ev hk;refine ⟨u6 w.tr.length (.lst (L.map bT)) (cA w.doms) o (some ok) (some ((w.tr.length:Int)+(k:Int))),by induction o using Oy<;>induction s using Oy<;>rfl,bW rfl (d:=false) (di (d:=true) (bx (a:=508) (by exact bz o rfl fun ζ=>rfl) (ap (v:=.own 2) (rfl) (ap (v:=.own 9) (rfl) (am (v:=aO (w.tr.length+k)) ?_))) (ud H' U.ws A'.K (au hlt) (U.gd.good _ _ (aP _ _) (au hlt))))) (fun h=>nomatch h) fun ζ=>aY (aY ⟨_,rfl,rfl,fun j hj=>hr j (.tail _ hj)⟩)⟩;unfold aO;refine aa (Int.natCast_add ..) ?_
   induction o using Oy<;>rfl
 ·intro a;intro r;intro ρ;intro _;intro Q7;refine bG (Q7) fun o done Q8 Q9 e=>?_;clear Q7;subst Q8;subst Q9;have dl:done.length<=1000:=by have:=congrArg List.length e;rw [ai] at this;have:=A.K.num;exact Ik ‹_› this
  have ha:=A.K.ans a (by refine aa (aH (e ..)) ?_;simp);refine ⟨u6 w.tr.length (.own Z.length) (cA w.doms) (some a) none none,by induction o using Oy<;>rfl,bW rfl (d:=er w.doms a) (bx rfl (ap (v:=bT a) rfl (am (v:=cA w.doms) rfl)) (np H0.ok ha)) (fun h=>?_) fun h=>aY (aY ⟨some a,done++[a],rfl,?_,by refine aa (List.append_assoc ..) ?_;exact e⟩)⟩
  ·refine cJ rfl (c9 (k:=Z.length) rfl bJ (am (v:=bT a) rfl) bJ (aI (af (List.length_filter_le _ _) dl)) cK) (aY (aY ⟨some a,done++[a],rfl,?_,by refine aa (List.append_assoc ..) ?_;exact e⟩));refine aa (eP ..) (aa (List.filter_append ..) (aa (List.filter_cons ..) (aa (h ..) (aa (aK ..) ?_))));rfl
  ·refine aa (List.filter_append ..) (aa (List.filter_cons ..) (aa (h ..) ?_));simp
end
theorem Nw {n:Nat}:∀ {l:List V},(∀ v∈l,ok n v)->ok (n+1) (.tup l)
 | [],_=>⟨by induction n using OB<;>rfl,rfl⟩
 | v::r,h=>by
  have h1:=h v (.head _);have h2:=Nw (l:=r) fun u hu=>h u (.tail _ hu);refine ⟨?_,?_⟩
  ·show (c6 n v&&cw n r)=true;refine aa (h1.1 ..) ?_;exact h2.1
  ·show (nb v&&vb r)=true;refine aa (h1.2 ..) ?_;exact h2.2
noncomputable def kj (kd:Bool) (C:Cs):V:=match kd with
 | true=>.tup [.str (T "count"),.tup (C.taken.map aO),.int C.value,aO C.n]
 | false=>.tup [.str (T "nvalue"),.tup (C.taken.map aO),aO C.n]
theorem td (x:Nat):ok 15 (aO x):=⟨rfl,rfl⟩
theorem Ai (x:Nat):ok 14 (aO x):=⟨rfl,rfl⟩
theorem sW (kd:Bool) (C:Cs):ok 16 (kj kd C):=by
 induction kd using Oz with
 | true =>
  refine Nw fun v hv=>?_;simp only [List.mem_cons,List.not_mem_nil,or_false] at hv;rcases hv with rfl | rfl | rfl | rfl
  ·exact ⟨by decide +kernel,rfl⟩
  ·exact jQ Ai _
  ·exact ⟨rfl,rfl⟩
  ·exact ⟨rfl,rfl⟩
 | false =>
  refine Nw fun v hv=>?_;simp only [List.mem_cons,List.not_mem_nil,or_false] at hv;rcases hv with rfl | rfl | rfl
  ·exact ⟨by decide +kernel,rfl⟩
  ·exact jQ Ai _
  ·exact ⟨rfl,rfl⟩
noncomputable def vz (kd:Bool):V:=.str (match kd with | true=>T "values" | false=>T "weak")
theorem sX (kd:Bool):ok 16 (vz kd):=by induction kd using Oz<;>exact ⟨by decide +kernel,rfl⟩
theorem ic {α β:Type}(f:α->β):∀ l:List α,everyOther (l.map f)=(everyOther l).map f
 | []=>rfl
 | [a]=>rfl
 | a::b::r=>by show f a::everyOther (r.map f)=_;refine aa (ic f r ..) ?_;rfl
theorem ib {α:Type}:∀ (l:List α),∀ x∈everyOther l,x∈l
 | [],_,h=>h
 | [a],_,h=>h
 | a::b::r,x,h=>by
  have h:x∈a::everyOther r:=h
  cases h with
  | head=>exact .head _
  | tail _ h=>exact .tail _ (.tail _ (ib r x h))
theorem ie {α:Type}:∀ (l:List α),(everyOther l).length<=l.length
 | []=>aU _
 | [a]=>aU _
 | a::b::r=>by
  have:=ie r;show (everyOther r).length+1<=r.length+1+1;exact J5 this
section
variable {n:Nat}{Z:ag}{D:bC}(G:fu D.kd D.C Z)
theorem ur {m:Nat}{N:Nat}{ρ:aL}{x:Str}{v:V}{p:Pos}{τ:ag}(h:lk x ρ=some v):ev (bD m) (N+1) ρ τ (.Name x p)=some (v,τ):=by
 show (match lk x ρ with | some v=>some (v,τ) | none=>(lk x G0).map (·,τ))=_;exact aa (h ..) (by rfl)
include G
theorem x7 (ho:dI Z) {N:Nat}{ρ:aL}{p p2 p3:Pos}(h:lk (T "asker") ρ=some (.own 11)):ev (bD (n+1)) (N+3) ρ Z (.Call (.Attribute (.Name (T "asker") p) (T "told") p2) [] [] p3)=some (kj D.kd D.C,Z):=by
 induction hk:D.kd using Oz with
 | true=>rw [hk] at G;exact zJ (C:=D.C) G (ur h) rfl rfl b0 (vG ho G)
 | false=>rw [hk] at G;exact m5 (C:=D.C) G (ur h) rfl rfl b0 (vE ho G)
theorem nY {N:Nat}{ρ:aL}{p p2:Pos}(h:lk (T "asker") ρ=some (.own 11)):ev (bD n) (N+2) ρ Z (.Attribute (.Name (T "asker") p) (T "scope") p2)=some (.tup ((D.C.taken++[D.C.n]).map aO),Z):=by
 induction hk:D.kd using Oz with
 | true=>rw [hk] at G;exact gB (C:=D.C) G (ur h) rfl rfl
 | false=>rw [hk] at G;exact j3 (C:=D.C) G (ur h) rfl rfl
theorem o7 {N:Nat}{ρ:aL}{p p2:Pos}(h:lk (T "asker") ρ=some (.own 11)):ev (bD n) (N+2) ρ Z (.Attribute (.Name (T "asker") p) (T "strength") p2)=some (vz D.kd,Z):=by
 induction hk:D.kd using Oz with
 | true=>rw [hk] at G;exact gB (C:=D.C) G (ur h) rfl rfl
 | false=>rw [hk] at G;exact j3 (C:=D.C) G (ur h) rfl rfl
theorem u5 (ho:dI Z) (h4:D.C.taken.length<=4) {a:cI}{N:Nat}{ρ:aL}{e:Expr}{p p2 p3:Pos}(h:lk (T "asker") ρ=some (.own 11)) (he:ev (bD (n+1)) (N+3) ρ Z e=some (.tup ((D.C.taken++[D.C.n]).map fun x=>V.int (a.getD x 0)),Z)):ev (bD (n+1)) (N+5) ρ Z (.Call (.Attribute (.Name (T "asker") p) (T "check") p2) [e] [] p3)=some (.bool (ff D a),Z):=by
 have e1:(D.C.taken++[D.C.n]).map (fun x=>V.int (a.getD x 0))=(ci D.C a++[a.getD D.C.n 0]).map V.int:=by unfold ci;refine aa (aK ..) (aa (aK ..) (aa (List.map_map ..) ?_));rfl
 rw [e1] at he;have vl:(ci D.C a).length<=10:=by unfold ci;refine aa (ah ..) ?_;exact J4 h4
 induction hk:D.kd using Oz with
 | true =>
  rw [hk] at G;refine (zJ (C:=D.C) G (ur h) rfl rfl (am he) (uf ho G vl)).trans ?_;unfold ff oW ci;refine aa (if_pos hk ..) (aa (List.countP_map ..) ?_);have:(fun x=>decide (a.getD x 0=D.C.value))=((fun x=>x==D.C.value) ∘ fun x=>a.getD x 0):=by
   funext x
   show decide (a.getD x 0=D.C.value)=(a.getD x 0==D.C.value);rw [Bool.eq_iff_iff,decide_eq_true_iff,beq_iff_eq]
  exact aa (this ..) (by rfl)
 | false =>
  rw [hk] at G;refine (m5 (C:=D.C) G (ur h) rfl rfl (am he) (uc ho vl)).trans ?_;unfold ff;exact aa (if_neg (by rw [hk];simp) ..) (by rfl)
end
theorem C5 {c:d8}{n:Nat}{ρ:aL}{Z Z1:ag}{o:Expr}{p q q2:Pos}{z:Nat}{l:List V}(h:ev c n ρ Z o=some (.lst l,Z1)) (hl:l.length<=lim):ev c (n+1) ρ Z (.Subscript o (.Slice none none (some (.Constant (.int 2) z q2)) q) p)=some (.lst (everyOther l),Z1):=by
 show (ev c n ρ Z o).bind _=_;refine aa (h ..) ?_;exact if_pos hl
noncomputable def DD (D:bC) (ts:List cI) (o:Option cI) (sd:Option Bool):aL:=[(T "asker",.own 11),(T "case",.own 9),(T "tuples",.lst (ts.map bT)),(T "some",.tup (D.C.taken.map aO)),(T "due",kj D.kd D.C)]++(match o with | none=>[] | some a=>[(T "answer",bT a)]++(match sd with | none=>[] | some b=>[(T "said",.bool b)]))
section
variable {n:Nat}{Z:ag}{w:b8}{D:bC}(H:SH w Z) (W:Ws w) (A:dT D w Z)
include H W A
theorem yB {ts:List cI}(hl:∀ a∈ts,a.length=w.doms.length) (hn:ts.length<=1000):cV (n+2) 528 [.own 11,.own 9,.lst (ts.map bT)] Z=some (.bool true,Z):=by
 show cL false Z (cB (bD (n+1)) 200 [(T "asker",.own 11),(T "case",.own 9),(T "tuples",.lst (ts.map bT))] Z (bd 40))=_;have K:=A.K.at';have tl:=A.O.len;have hl4:=A.K.l;have c1:∀ {Z:ag},mj Z .NotEq (kj D.kd D.C) (kj D.kd D.C)=some false:=fun {Z}=>mq (d:=true) (a':=kj D.kd D.C) (b':=kj D.kd D.C) (by cases D.kd<;>rfl) (by cases D.kd<;>rfl) (sW _ _) (sW _ _) ⟨fun ζ=>rfl,fun ζ=>rfl⟩;have e2:ft .Add (.tup (D.C.taken.map aO)) (.tup [aO D.C.n])=some (.tup ((D.C.taken++[D.C.n]).map aO)):=by refine aa (aK ..) ?_;exact su (aI (jJ tl)) (by simp [lim])
 refine bS H.ok rfl (bu rfl (v:=.tup (D.C.taken.map aO)) (fj (i:= "tuple") rfl (am (dF rfl rfl rfl K rfl)) (qM (aI (jJ tl)))) rfl (bu rfl (v:=kj D.kd D.C) (oR (d:=D.kd) (dF rfl rfl rfl K rfl) (fun h=>?_) (fun h=>?_)) (ρ':=DD D ts none none) rfl (bW rfl (d:=false) (rX (d:=false) (d':=false) (bq (x7 A.ask H.ok rfl) rfl c1) (fun ζ=>bq (nY A.ask rfl) (cF rfl (cf (am (dF rfl rfl rfl K rfl))) e2) (mq (d:=true) rfl rfl (jQ td _) (jQ td _) ⟨fun ζ=>rfl,fun ζ=>rfl⟩)) (fun h=>nomatch h)) (fun h=>nomatch h) fun ζ=>aY (bW rfl (d:=false) (bq (o7 A.ask rfl) (oR (v:=vz D.kd) (d:=D.kd) (dF rfl rfl rfl K rfl) (fun h=>by refine aa (h ..) ?_;rfl) (fun h=>by refine aa (h ..) ?_;rfl)) (mq (d:=true) (a':=vz D.kd) (b':=vz D.kd) rfl rfl (sX _) (sX _) ⟨fun ζ=>rfl,fun ζ=>rfl⟩)) (fun h=>nomatch h) fun ζ=>aY (dg rfl rfl (C5 rfl (aI hn)) (bB (af (ie _) (aI hn))) ?_)))))
 ·refine aa (h ..) ?_;exact cf (ap rfl (ap rfl (ap (dF rfl rfl rfl K rfl) (am (dF rfl rfl rfl K rfl)))))
 ·refine aa (h ..) ?_;exact cf (ap rfl (ap rfl (am (dF rfl rfl rfl K rfl))))
 refine aa (ic ..) ?_;refine cm (enc:=bT) (fun r ρ Z'=>∃ o sd,ρ=DD D ts o sd/\Z'=Z/\∀ a∈r,a∈ts) ⟨none,none,rfl,rfl,fun a h=>ib _ a h⟩ ?_ ?_
 ·intro ρ;intro Z';intro Q0;refine bG (Q0) fun o sd Q1 hσ ζ=>?_;clear Q0;subst Q1;subst Z';exact bo (v:=.bool true) rfl (rfl) ⟨rfl,rfl⟩
 ·intro a;intro r;intro ρ;intro Z';intro Q2;refine bG (Q2) fun o sd Q3 hσ hr=>?_;clear Q2;subst Q3;subst Z';have ha:=hl a (hr a (.head _));have bnd:∃ q',b6 (.Name (T "answer") default) (bT a) (DD D ts o sd)=some (DD D ts (some a) q'):=by
   induction o using Oy with
   | none=>exact ⟨none,rfl⟩
   | some o=>induction sd using Oy with
    | none=>exact ⟨none,rfl⟩
    | some v=>exact ⟨some v,rfl⟩
  refine be bnd fun q' bnd=>?_;have hx:∀ x∈D.C.taken++[D.C.n],x<w.doms.length:=by
   intro x hx;rcases aN.mp hx with h | h
   ·exact A.O.x x h
   ·refine aa (an.mp h ..) ?_;exact A.O.n
  have ll:(D.C.taken++[D.C.n]).length<=5:=by refine aa (ai ..) (aa (aE ..) ?_);exact J3 tl
  refine ⟨_,bnd,bu rfl (u5 A.ask H.ok tl (a:=a) (rfl) (fj (i:= "tuple") (by exact bz q' rfl fun ζ=>rfl) (am ((cN (enc:=aO) (as:=D.C.taken++[D.C.n]) (g:=fun x=>if true then [V.int (a.getD x 0)] else []) (nY A.ask (rfl)) (cj (aI (Bz ll))) (fun x hxm=>ce (d:=true) (ρ':=st (T "x") (aO x) (DD D ts (some a) q')) rfl kD fun ζ=>bI (j:=(x:Nat)) rfl (v:=bT a) (rfl) (by exact bz q' rfl fun ζ=>rfl) rfl (aI (y6 hl4 ha)) (pi (by refine aa (ah ..) (aa (ha ..) ?_);exact hx x hxm)) (kA (by refine aa (ha ..) ?_;exact hx x hxm))) rfl).trans (by exact aa (e6 ..) (by rfl)))) (qM (aI (Bz ll))))) (ρ':=DD D ts (some a) (some (ff D a))) (by exact bz q' rfl fun ζ=>rfl) (bW rfl (d:=false) (bq (cW (i:= "repr") rfl (am (fI (am rfl) rfl)) o6) (cW (i:= "repr") rfl (am (fI (am (bx rfl (ap rfl (am rfl)) (pH (fs:=fq) ⟨rfl,rfl,rfl,rfl⟩ H.ok K ⟨tl,A.O.x,A.O.n,hl4⟩ ha))) rfl)) o6) (mq (d:=true) rfl rfl (kO _) (kO _) ⟨fun ζ=>rfl,fun ζ=>rfl⟩)) (fun h=>nomatch h) fun ζ=>aY (aY ⟨some a,_,rfl,rfl,fun b hb=>hr b (.tail _ hb)⟩))⟩
end
noncomputable def cq (Z:ag) (k:Int):Prop:=∃ cells spot,Dw Z cells spot/\spot<=k
theorem yI {w:b8}{Z:ag}{cells:List Int}{spot:Int}(H:SH w Z) (W:Wk w):SH w (Z.set 0 (.sdct (e8 cells spot))):=by
 have hM:=W.kM.ne;have hN:=W.kN.ne;exact ⟨pQ H.ok,(ae (by decide)).trans H.a,(ae (by decide)).trans H.i,(ae (by decide)).trans H.d,(ae (by decide)).trans H.f,(ae (by decide)).trans H.t,(ae (y8 hM)).trans H.m,(ae (y8 hN)).trans H.n⟩
structure pf (Z Z':ag):Prop where
 len:Z'.length=Z.length
 at':∀ i,i≠0->Z'[i]?=Z[i]?
theorem pf.trans {Z1 Z2 Z3:ag}(f:pf Z1 Z2) (g:pf Z2 Z3):pf Z1 Z3:=⟨g.len.trans f.len,fun i h=>(g.at' i h).trans (f.at' i h)⟩
theorem MK {n:Nat}{Z:ag}{w:b8}{k wide:Int}(H:SH w Z) (W:Wk w) (F:cq Z k) (hk:k<=900) (hw:0<wide) :
  ∃ r Z',cV (n+1) 457 [.own 0,.int wide] Z=some (.int r,Z')/\0<=r/\r<wide/\SH w Z'/\cq Z' (k+1)/\pf Z Z':=by
 refine bQ F fun cells spot F hs=>?_;obtain ⟨_,_,e,r,rfl,h1,h2,rfl⟩:=sS (n:=n) H.ok F hw;have:=F.s;exact ⟨r,_,e,h1,h2,yI H W,⟨cells,spot+1,⟨cQ F.at',F.len,by exact J2 hk hs this⟩,by exact J1 hs⟩,aF,fun i h=>ae (Ne.symm h)⟩
section
variable {c:d8}{n:Nat}{ρ:aL}{Z Z1 Z2:ag}{e it elt t:Expr}{p:Pos}{v:V}
theorem tN {ifs:List Expr}{s:Scope}{vs r:List V}(h1:ev c n ρ Z it=some (v,Z1)) (h2:items v=some vs) (h3:cz (iI c n ρ t elt ifs) vs Z1=some (r,Z2)):ev c (n+1) ρ Z (.ListComp elt [⟨t,it,ifs,0⟩] s p)=if c.owned p.line then some (.own Z2.length,Z2++[.lst r]) else some (.lst r,Z2):=by
 show (ev c n ρ Z it).bind _=_;refine aa (h1 ..) ?_;show (items v).bind _=_;refine aa (h2 ..) ?_;show (cz (iI c n ρ t elt ifs) vs Z1).map _=_;refine aa (h3 ..) ?_;show some (if c.owned p.line=true then (V.own Z2.length,Z2++[Cell.lst r]) else (V.lst r,Z2))=_
 cases c.owned p.line<;>rfl
theorem tL {y x:V}{ρ':aL}(hb:b6 t x ρ=some ρ') (h:ev c (n+1) ρ' Z elt=some (y,Z1)):iI c (n+1) ρ t elt [] x Z=some ([y],Z1):=by
 unfold iI;refine aa (hb ..) ?_;show (ev c (n+1) ρ' Z elt).map _=_;refine aa (h ..) ?_;rfl
theorem AK:evk c (n+1) ρ Z [] []=some ([],Z):=rfl
theorem iM {x:Str}{z:Nat}{ks:List (Option Expr)}{r:List Expr}{l:List (Str×V)}(h1:ev c n ρ Z e=some (v,Z1)) (h2:evk c n ρ Z1 ks r=some (l,Z2)):evk c (n+1) ρ Z (some (.Constant (.str x) z p)::ks) (e::r)=some ((x,v)::l,Z2):=by
 show (ev c n ρ Z e).bind _=_;refine aa (h1 ..) ?_;show (evk c n ρ Z1 ks r).map _=_;refine aa (h2 ..) ?_;rfl
theorem xB {ks:List (Option Expr)}{r:List Expr}{fs:List (Str×V)}(h:evk c n ρ Z ks r=some (fs,Z1)) (h2:fs.length<=15/\(fs.map (·.1)).Nodup) (h3:fs.isEmpty=false):ev c (n+1) ρ Z (.Dict ks r p)=some (.own Z1.length,Z1++[.sdct fs]):=by
 show (evk c n ρ Z ks r).bind _=_;refine aa (h ..) ?_;show (if fs.length<=15/\(fs.map (·.1)).Nodup then some (V.own Z1.length,Z1++[if fs.isEmpty then .idct 0 else .sdct fs]) else none)=_;refine aa (if_pos h2 ..) (aa (h3 ..) ?_);rfl
end
structure sG (D:bC) (ms:List Nat) (Z:ag):Prop where
 sh:SH w0 Z
 feed:cq Z 30
 box:Z[8]?=some (.lst (ms.map fun m=>co (bk m)))
 case:Z[9]?=some (.sdct (bL D))
 len:Z.length=10
 m:∀ m∈ms,0<m/\m<32
 num:ms.length<=4
 pl:D.C.taken.length<=4
 x:∀ x∈D.C.taken,x<ms.length
 n:D.C.n<ms.length
 v:0<=D.C.value/\D.C.value<8
 un:D.un=true->∃ k,D.C.taken=List.range k/\D.C.n=k/\ms.length=k+1
noncomputable def Om:ag:=[.attrs (pk w0),.inst 277 1,.lst [],.lst [],.lst [],.lst [],.idct 0]
theorem ug {n:Nat}{c:Cell}:cV (n+2) 277 [] [c]=some (.own 2,c::Om):=vK
theorem kh:Wk w0:=⟨.inl rfl,.inr (.inl rfl),by decide⟩
noncomputable def iC (i:Nat):List Stmt:=(bd 41).drop i
noncomputable def ρ1 (s:List Int) (wide:Nat):aL:=[(T "script",.lst (s.map .int)),(T "feed",.own 0),(T "wide",aO wide),(T "store",.own 2)]
theorem qp:((e8 [] 0).map (·.1)).Nodup:=by decide +kernel
theorem Dg {Z:ag}{l:List V}(h:l.length<=lim):eG Z (.type "list") [.lst l]=some (.lst l):=if_pos h
theorem Ml {n:Nat}{s:List Int}{Q:Fl->aL->ag->Prop}(hs:s.length<=63) (k:∀ wide Z,1<=wide->wide<=3->SH w0 Z->cq Z 1->Z.length=8->Xs (bD (n+2)) 198 (ρ1 s wide) Z (iC 2) Q):Xs (bD (n+2)) 200 [(T "script",.lst (s.map .int))] [] (bd 41) Q:=by
 have l40:(s.take 40).length<=40:=by refine aa (List.length_take ..) ?_;exact J0
 have F0:Dw [.sdct (e8 (s.take 40) 0)] (s.take 40) 0:=⟨rfl,l40,by decide⟩;have ok0:dI [.sdct (e8 (s.take 40) 0)]:=show (((dA _ _&&(cO _ _&&true))&&true)=true) by refine aa (bw (fun ζ=>rfl) ..) ?_;rfl
 refine bQ (sS (n:=n+1) (wide:=3) ok0 F0 (by decide)) fun ζ ζ e1 Q0=>?_;refine ij (Q0) fun r Q1 r1 r2 Q2=>?_;clear Q0;subst Q1;subst Q2;refine be (Int.eq_ofNat_of_zero_le r1) fun r Q3=>?_;subst Q3;have e1:cV (n+2) 457 [.own 0,.int 3] [.sdct (e8 (s.take 40) 0)]=some (.int (r:Nat),[.sdct (e8 (s.take 40) (0+1))]):=e1;obtain ⟨τ,τ2,e1,st,hSH,hF,hlen⟩:∃ τ τ2,cV (n+2) 457 [.own 0,.int 3] [.sdct (e8 (s.take 40) 0)]=some (.int (r:Nat),τ)/\cV (n+2) 277 [] τ=some (.own 2,τ2)/\SH w0 τ2/\cq τ2 1/\τ2.length=8:=by
  refine ⟨_,_,e1,ug,⟨?_,rfl,rfl,rfl,rfl,rfl,rfl,rfl⟩,⟨_,_,⟨rfl,l40,by decide⟩,by decide⟩,rfl⟩;show ((dA _ _&&(cO _ _&&true))&&_)=true;refine aa (bw (fun ζ=>rfl) ..) ?_;rfl
 refine bu rfl (v:=.own 0) (Z1:=[.sdct (e8 (s.take 40) 0)]) (xB (fs:=e8 (s.take 40) 0) (Z1:=[]) (iM (v:=.lst ((s.take 40).map .int)) (Z1:=[]) (fj (i:= "list") rfl (am (v:=.lst ((s.take 40).map .int)) (Z1:=[]) ?_) (Dg (aI (EG l40)))) (iM (v:=.int 0) rfl AK)) ⟨by simp [e8],qp⟩ rfl) (ρ':=[(T "script",.lst (s.map .int)),(T "feed",.own 0)]) rfl (bu rfl (v:=.tup [aO (1+r),.own 2]) (cf (ap (cF (v:=.int 1) (w:=.int (r:Nat)) rfl (bx rfl (ap rfl (am rfl)) e1) (by show some (V.int (1+(r:Int)))=some (V.int ((1+r:Nat):Int));refine aa (Int.natCast_add ..) ?_;rfl)) (am (v:=.own 2) (bx rfl b0 st)))) (ρ':=ρ1 s (1+r)) (fR rfl) (k (1+r) _ JY (JX r2) hSH hF hlen));exact (oQ (Z2:=[]) (l:=s.map V.int) (v:=.lst (s.map .int)) (i:=40) rfl rfl rfl (by decide) (aI (JW hs))).trans (by refine aa (show (40:Int).toNat=40 from rfl ..) (aa (aH (List.map_take ..)) ?_);rfl)
theorem iW {α:Type}{enc:α->V}{f:V->ag->Option (List V×ag)}(K:Nat) (I:Nat->List V->ag->Prop):∀ (l:List α) (k:Nat) (pre:List V) (Z:ag),k+l.length<=K->I k pre Z->(∀ x∈l,∀ k done Z,k<K->I k done Z->∃ ys Z',f (enc x) Z=some (ys,Z')/\I (k+1) (done++ys) Z')->∃ r Z',cz f (l.map enc) Z=some (r,Z')/\I (k+l.length) (pre++r) Z'
 | [],k,pre,Z,_,h,_=>⟨[],Z,rfl,by refine aa (List.append_nil ..) ?_;exact h⟩
 | x::l,k,pre,Z,hK,h,hs=>by
  rw [aR] at hK;refine bQ (hs x (.head _) k pre Z (Ex hK) h) fun ys Z1 e1 h1=>?_;refine bQ (iW K I l (k+1) (pre++ys) Z1 (Bu hK) h1 fun y hy=>hs y (.tail _ hy)) fun r Z2 e2 h2=>?_;refine ⟨ys++r,Z2,?_,?_⟩
  ·show (f (enc x) Z).bind _=_;refine aa (e1 ..) ?_;show (cz f (l.map enc) Z1).map _=_;refine aa (e2 ..) ?_;rfl
  ·refine aa (aH (List.append_assoc ..)) (aa (aR ..) (aa (Nat.add_comm l.length 1 ..) (aa (aH (Nat.add_assoc ..)) ?_)));exact h2
theorem gP {w:b8}{Z:ag}{k:Nat}{c:Cell}(H:SH w Z) (hc:mN Z.length c=true) (h:k≠1/\k≠2/\k≠3/\k≠4/\k≠5/\k≠w.kM/\k≠w.kN):SH w (Z.set k c) :=
 ⟨dW H.ok hc,(ae h.1).trans H.a,(ae h.2.1).trans H.i,(ae h.2.2.1).trans H.d,(ae h.2.2.2.1).trans H.f,(ae h.2.2.2.2.1).trans H.t,(ae h.2.2.2.2.2.1).trans H.m,(ae h.2.2.2.2.2.2).trans H.n⟩
theorem cq.set {Z:ag}{k:Int}{j:Nat}{c:Cell}(F:cq Z k) (h:j≠0):cq (Z.set j c) k:=by
 refine bQ F fun cells spot F hs=>?_;exact ⟨cells,spot,⟨(ae h).trans F.at',F.len,F.s⟩,hs⟩
theorem cq.app {Z:ag}{k:Int}{c:Cell}(F:cq Z k):cq (Z++[c]) k:=by
 refine bQ F fun cells spot F hs=>?_;exact ⟨cells,spot,⟨dE F.at',F.len,F.s⟩,hs⟩
theorem cq.mono {Z:ag}{k k':Int}(F:cq Z k) (h:k<=k'):cq Z k':=by
 refine bQ F fun cells spot F hs=>?_;exact ⟨cells,spot,F,by exact JV h hs⟩
noncomputable def gv (ms:List Nat):List V:=ms.map fun m=>co (bk m)
theorem pu {n:Nat}(ms:List Nat):dA n (gv ms)=true:=bw (fun ζ=>jL _) ms
noncomputable def ρ2 (s:List Int) (wide:Nat):aL:=ρ1 s wide++[(T "boxes",.own 8)]
theorem Ah {n:Nat}{Z:ag}{w:b8}{k:Int}{wd b:Nat}(H:SH w Z) (W:Wk w) (F:cq Z k) (hk:k<=900) (hw:(wd=7/\b=3)\/(wd=31/\b=5)) :
  ∃ m Z',0<m/\m<32/\SH w Z'/\cq Z' (k+1)/\pf Z Z'/\∀ {N:Nat}{ρ:aL}{p p1 p2 p3 p4 p5 p6 p7 p8:Pos}{z z2 z3:Nat},lk (T "feed") ρ=some (.own 0)->lk (T "_law_next") ρ=none->lk (T "_law_picked") ρ=none->ev (bD (n+1)) (N+10) ρ Z (.Call (.Name (T "_law_picked") p) [.BinOp (.Constant (.int 1) z p1) .Add (.Call (.Name (T "_law_next") p2) [.Name (T "feed") p3,.Constant (.int (wd:Nat)) z2 p4] [] p5) p6,.Constant (.int (b:Nat)) z3 p7] [] p8)=some (co (bk m),Z'):=by
 have ng:∀ {N:Nat}{ρ:aL}{x:Str}{v:V}{p:Pos}{τ:ag},lk x ρ=none->lk x G0=some v->ev (bD (n+1)) (N+1) ρ τ (.Name x p)=some (v,τ):=by
  intro N ρ x v p τ h h2;show (match lk x ρ with | some v=>some (v,τ) | none=>(lk x G0).map (·,τ))=_;refine aa (h ..) (aa (h2 ..) ?_);rfl
 refine iU (MK (n:=n) (wide:=(wd:Nat)) H W F hk (JU hw)) fun r Z' e r1 r2 H' F' B=>?_;refine be (Int.eq_ofNat_of_zero_le r1) fun r Q0=>?_;subst Q0;have hm:1+r<32:=JT hw r2;exact ⟨1+r,Z',by exact JS,hm,H',F',B,fun h1 h2 h3=>bx (ng h3 rfl) (ap (v:=aO (1+r)) (cF (v:=.int 1) (w:=.int (r:Nat)) rfl (bx (ng h2 rfl) (ap (ur h1) (am rfl)) e) (by show some (V.int (1+(r:Int)))=some (V.int ((1+r:Nat):Int));refine aa (Int.natCast_add ..) ?_;rfl)) (am (v:=aO b) rfl)) (ub (w:=b) H'.ok hm (JR hw r2))⟩
noncomputable def Oi:Expr×Expr:=match (iC 2)[0]? with | some (Stmt.Assign _ (Expr.ListComp e (⟨t,_,_,_⟩::_) _ _) _)=>(t,e) | _=>(default,default)
theorem Mj {n:Nat}{s:List Int}{wide:Nat}{Z:ag}{Q:Fl->aL->ag->Prop}(hw:1<=wide/\wide<=3) (H:SH w0 Z) (F:cq Z 1) (hl:Z.length=8) (k:∀ ms Z,ms.length=wide+1->(∀ m∈ms,0<m/\m<32)->SH w0 Z->cq Z 5->Z.length=9->Z[8]?=some (.lst (gv ms))->Xs (bD (n+1)) 196 (ρ2 s wide) Z (iC 4) Q):Xs (bD (n+1)) 198 (ρ1 s wide) Z (iC 2) Q:=by
 have key:=iW (enc:=fun i:Nat=>V.int (0+(i:Int))) (f:=iI (bD (n+1)) 195 (ρ1 s wide) Oi.1 Oi.2 []) wide (fun k done Z=>∃ ms:List Nat,ms.length=k/\done=gv ms/\(∀ m∈ms,0<m/\m<32)/\SH w0 Z/\cq Z (1+(k:Int))/\Z.length=8) (List.range wide) 0 [] Z (by refine aa (List.length_range ..) ?_;exact JQ) ⟨[],rfl,rfl,by simp,H,F.mono (by decide),hl⟩ (fun x hx k done Z hk ⟨ms,m1,m2,m3,H,F,l⟩=>by
  refine iU (Ah (n:=n) (wd:=7) (b:=3) H kh F (JP hw hk) (.inl ⟨rfl,rfl⟩)) fun m Z' q1 q2 H' F' B e=>?_;refine ⟨[co (bk m)],Z',tL (ρ':=st (T "lap") (.int (0+(x:Int))) (ρ1 s wide)) rfl (e (N:=185) rfl rfl rfl),ms++[m],by refine aa (ai ..) (aa (m1 ..) ?_);rfl,by refine aa (m2 ..) ?_;unfold gv;refine aa (aK ..) ?_;rfl,fun u hu=>?_,H',F'.mono JO,B.len.trans l⟩;rcases aN.mp hu with hu | hu
  ·exact m3 u hu
  ·refine aa (an.mp hu ..) ?_;exact ⟨q1,q2⟩)
 refine bQ key fun r Z' e Q0=>?_;clear key;refine xz (Q0) fun ms m1 m2 m3 H' F' l'=>?_;clear Q0;rw [Nat.zero_add,List.length_range] at m1 F';rw [List.nil_append] at m2;subst m2;have H2:SH w0 (Z'++[.lst (gv ms)]):=gr H' (pu ms);refine iU (Ah (n:=n) (wd:=31) (b:=5) H2 kh F'.app (JN hw) (.inr ⟨rfl,rfl⟩)) fun m Z'' q1 q2 H3 F3 B3 e3=>?_;have g8:(Z'++[Cell.lst (gv ms)])[8]?=some (.lst (gv ms)):=by refine aa (aH (l' ..)) ?_;exact bJ
 have g8':Z''[8]?=some (.lst (gv ms)):=(B3.at' 8 (by decide)).trans g8;have e4:gv ms++[co (bk m)]=gv (ms++[m]):=by unfold gv;refine aa (aK ..) ?_;rfl
 refine bu rfl (v:=.own 8) (Z1:=Z'++[.lst (gv ms)]) ((tN (v:=.rng 0 (wide:Nat)) (fj (i:= "range") rfl (am rfl) rfl) ((dy ⟨by decide,by unfold lim;exact EF hw⟩).trans (by simp)) e).trans (by refine aa (aH (l' ..)) ?_;rfl)) (ρ':=ρ2 s wide) rfl (cJ rfl (c9 (k:=8) rfl g8 (am (e3 (N:=183) rfl rfl rfl)) g8' (aI (JM hw m1)) cK) ?_);refine aa (e4 ..) ?_;refine k (ms++[m]) _ (by refine aa (ai ..) (aa (m1 ..) ?_);rfl) (fun u hu=>?_) (gP H3 (pu _) (by decide)) ((F3.set (by decide)).mono (JL hw)) (by refine aa (aF ..) (aa (B3.len ..) (aa (ez ..) (aa (l' ..) ?_)));rfl) (cQ g8');rcases aN.mp hu with hu | hu
 ·exact m3 u hu
 ·refine aa (an.mp hu ..) ?_;exact ⟨q1,q2⟩
noncomputable def ρ3 (s:List Int) (wide:Nat) (a b v k:Nat):aL:=ρ2 s wide++[(T "is_plain",aO a),(T "late",aO b),(T "value",aO v),(T "kind",aO k)]
noncomputable def ρ4 (s:List Int) (wide:Nat) (a b v k:Nat):aL:=ρ3 s wide a b v k++[(T "case",.own 9)]
theorem jC {n:Nat}{Z:ag}{w:b8}{k:Int}(wd:Nat) (H:SH w Z) (W:Wk w) (F:cq Z k) (hk:k<=900) (hw:0<wd) :
  ∃ r Z',r<wd/\SH w Z'/\cq Z' (k+1)/\pf Z Z'/\∀ {N:Nat}{ρ:aL}{p p1 p2:Pos}{e:Expr},lk (T "feed") ρ=some (.own 0)->lk (T "_law_next") ρ=none->ev (bD (n+1)) (N+4) ρ Z e=some (aO wd,Z)->ev (bD (n+1)) (N+7) ρ Z (.Call (.Name (T "_law_next") p) [.Name (T "feed") p1,e] [] p2)=some (aO r,Z'):=by
 have ng:∀ {N:Nat}{ρ:aL}{x:Str}{v:V}{p:Pos}{τ:ag},lk x ρ=none->lk x G0=some v->ev (bD (n+1)) (N+1) ρ τ (.Name x p)=some (v,τ):=by
  intro N ρ x v p τ h h2;show (match lk x ρ with | some v=>some (v,τ) | none=>(lk x G0).map (·,τ))=_;refine aa (h ..) (aa (h2 ..) ?_);rfl
 refine iU (MK (n:=n) (wide:=(wd:Nat)) H W F hk (JK hw)) fun r Z' e r1 r2 H' F' B=>?_;refine be (Int.eq_ofNat_of_zero_le r1) fun r Q0=>?_;subst Q0;exact ⟨r,Z',by exact JJ r2,H',F',B,fun h1 h2 h3=>bx (ng h2 rfl) (ap (ur h1) (am h3)) e⟩
noncomputable def D0 (wide v:Nat) (kd:Bool):bC:=⟨⟨List.range wide,(v:Int),wide⟩,kd,true,[]⟩
theorem oY {D:bC}:(bL D).length<=15/\((bL D).map (·.1)).Nodup:=⟨by simp [bL],show [T "places",T "n",T "value",T "is_count",T "is_unlike"].Nodup by decide +kernel⟩
theorem iB {n:Nat}{D:bC}:mN n (.sdct (bL D))=true:=by
 show (dA n _&&(cO n _&&(cO n _&&(cO n _&&(cO n _&&true)))))=true;refine aa (bw (fun ζ=>rfl) ..) ?_;rfl
noncomputable def Oh:Expr×Expr:=match (iC 6)[0]? with | some (Stmt.If _ (Stmt.Assign _ (Expr.ListComp e (⟨t,_,_,_⟩::_) _ _) _::_) _ _)=>(t,e) | _=>(default,default)
theorem Mi {n:Nat}{s:List Int}{wide:Nat}{ms:List Nat}{Z:ag}{Q:Fl->aL->ag->Prop}(hw:1<=wide/\wide<=3) (hms:ms.length=wide+1) (hm:∀ m∈ms,0<m/\m<32) (H:SH w0 Z) (F:cq Z 5) (hl:Z.length=9) (h8:Z[8]?=some (.lst (gv ms))) (k:∀ D Z a b v kk,sG D ms Z->aO v=.int D.C.value->Xs (bD (n+1)) 193 (ρ4 s wide a b v kk) Z (iC 7) Q):Xs (bD (n+1)) 196 (ρ2 s wide) Z (iC 4) Q:=by
 refine eA (jC (n:=n) 2 H kh F (by decide) (by decide)) fun a σ1 r1 H1 F1 B1 e1=>?_;refine eA (jC (n:=n) 6 H1 kh F1 (by decide) (by decide)) fun b σ2 r2 H2 F2 B2 e2=>?_;refine eA (jC (n:=n) 4 H2 kh F2 (by decide) (by decide)) fun v σ3 r3 H3 F3 B3 e3=>?_;refine eA (jC (n:=n) 2 H3 kh F3 (by decide) (by decide)) fun kk Z4 r4 H4 F4 B4 e4=>?_;have B:=((B1.trans B2).trans B3).trans B4;have l4:Z4.length=9:=B.len.trans hl;have g8:Z4[8]?=some (.lst (gv ms)):=(B.at' 8 (by decide)).trans h8
 let D:=D0 wide v (decide (kk=0))
 have H5:SH w0 (Z4++[.sdct (bL D)]):=gr H4 iB;have rl:eG Z4 (.type "list") [.rng 0 (wide:Nat)]=some (.lst ((List.range wide).map aO)):=by
  show (if (0:Int).natAbs<=lim/\((wide:Nat):Int).natAbs<=lim then some (V.lst ((List.range (((wide:Nat):Int) - 0).toNat).map fun i:Nat=>V.int (0+(i:Int)))) else none)=_;refine aa (if_pos ⟨by decide,by unfold lim;exact EF hw⟩ ..) (aa (show (((wide:Nat):Int) - 0).toNat=wide by exact JI ..) ?_);refine congrArg (fun l=>some (V.lst l)) (List.map_congr_left fun i ζ=>?_);refine aa (Int.zero_add ..) ?_;rfl
 refine bu rfl (v:=.tup [aO a,aO b,aO v,aO kk]) (Z1:=Z4) (cf (ap (e1 (N:=185) rfl rfl rfl) (ap (e2 (N:=184) rfl rfl rfl) (ap (e3 (N:=183) rfl rfl rfl) (am (e4 (N:=182) rfl rfl rfl)))))) (ρ':=ρ3 s wide a b v kk) (fR rfl) ?_;refine bu rfl (v:=.own 9) (Z1:=Z4++[.sdct (bL D)]) ((xB (fs:=bL D) (Z1:=Z4) (iM (v:=.lst ((List.range wide).map aO)) (fj (i:= "list") rfl (am (fj (i:= "range") rfl (am rfl) rfl)) rl) (iM (v:=aO wide) rfl (iM (v:=aO v) rfl (iM (v:=.bool (decide (kk=0))) ((bq rfl rfl dG).trans (by exact aa (show decide (((kk:Nat):Int)=0)=decide (kk=0) from decide_eq_decide.mpr (by lia) ..) (by rfl))) (iM (v:=.bool true) rfl AK))))) oY rfl).trans (by exact aa (l4 ..) (by rfl))) (ρ':=ρ4 s wide a b v kk) rfl ?_;have D1:sG D ms (Z4++[.sdct (bL D)]):=⟨H5,F4.app.mono (by decide),dE g8,by refine aa (aH (l4 ..)) ?_;exact bJ,by refine aa (ez ..) (aa (l4 ..) ?_);rfl,hm,by exact ED hw hms,by show (List.range wide).length<=4;refine aa (List.length_range ..) ?_;exact JH hw,fun x hx=>by have:=List.mem_range.mp hx;exact ER hms this,by show wide<ms.length;exact EJ hms,⟨Int.natCast_nonneg _,by show ((v:Nat):Int)<8;exact EC r3⟩,fun ζ=>⟨wide,rfl,rfl,hms⟩⟩;refine bW rfl (d:=decide (((a:Nat):Int)=1)) (bq rfl rfl dG) (fun ζ=>?_) fun ζ=>aY (k D _ a b v kk D1 rfl);have g9:(Z4++[Cell.sdct (bL D)])[9]?=some (.sdct (bL D)):=by refine aa (aH (l4 ..)) ?_;exact bJ
 refine eA (jC (n:=n) 4 H5 kh F4.app (by decide) (by decide)) fun r Z5 r5 H6 F5 B5 e5=>?_;have key:=iW (enc:=fun i:Nat=>V.int (0+(i:Int))) (f:=iI (bD (n+1)) 190 (ρ4 s wide a b v kk) Oh.1 Oh.2 []) (1+r) (fun k done Z=>∃ xs:List Nat,xs.length=k/\done=xs.map aO/\(∀ x∈xs,x<wide)/\SH w0 Z/\cq Z (10+(k:Int))/\pf (Z4++[.sdct (bL D)]) Z) (List.range (1+r)) 0 [] Z5 (by refine aa (List.length_range ..) ?_;exact JG) ⟨[],rfl,rfl,by simp,H6,F5.mono (by decide),B5⟩ (fun x hx k done Z hk ⟨xs,m1,m2,m3,H,F,BB⟩=>by
  refine eA (jC (n:=n) wide H kh F (JF r5 hk) (JE hw)) fun y Z' q1 H' F' B e=>?_;refine ⟨[aO y],Z',tL (ρ':=st (T "lap") (.int (0+(x:Int))) (ρ4 s wide a b v kk)) rfl (e (N:=183) rfl rfl rfl),xs++[y],by refine aa (ai ..) (aa (m1 ..) ?_);rfl,by refine aa (m2 ..) (aa (aK ..) ?_);rfl,fun u hu=>?_,H',F'.mono JD,BB.trans B⟩;rcases aN.mp hu with hu | hu
  ·exact m3 u hu
  ·refine aa (an.mp hu ..) ?_;exact q1)
 refine bQ key fun rr Z6 ec Q0=>?_;clear key;refine xz (Q0) fun xs m1 m2 m3 H7 F7 B7=>?_;clear Q0;rw [Nat.zero_add,List.length_range] at m1 F7;rw [List.nil_append] at m2;subst m2;have g9':Z6[9]?=some (.sdct (bL D)):=(B7.at' 9 (by decide)).trans g9;have g8':Z6[8]?=some (.lst (gv ms)):=(B7.at' 8 (by decide)).trans (dE g8);have l6:Z6.length=10:=by refine aa (B7.len ..) (aa (ez ..) (aa (l4 ..) ?_));rfl
 let nn:Nat:=if b=1 then 0 else wide
 let Da:bC:=⟨⟨xs,(v:Int),wide⟩,decide (kk=0),true,[]⟩
 let Db:bC:=⟨⟨xs,(v:Int),nn⟩,decide (kk=0),true,[]⟩
 let Dc:bC:=⟨⟨xs,(v:Int),nn⟩,decide (kk=0),false,[]⟩
 have c5:(bL D).length<=400:=by simp [bL]
 have nd:∀ {k:Nat},k=9->k≠1/\k≠2/\k≠3/\k≠4/\k≠5/\k≠w0.kM/\k≠w0.kN:=by rintro k rfl;decide
 have Ha:SH w0 (Z6.set 9 (.sdct (bL Da))):=gP H7 iB (nd rfl);have Hb:SH w0 ((Z6.set 9 (.sdct (bL Da))).set 9 (.sdct (bL Db))):=gP Ha iB (nd rfl);have Hc:SH w0 (((Z6.set 9 (.sdct (bL Da))).set 9 (.sdct (bL Db))).set 9 (.sdct (bL Dc))):=gP Hb iB (nd rfl);have ga:(Z6.set 9 (.sdct (bL Da)))[9]?=some (.sdct (bL Da)):=cQ g9';have gb:((Z6.set 9 (.sdct (bL Da))).set 9 (.sdct (bL Db)))[9]?=some (.sdct (bL Db)):=cQ ga;refine bu rfl (v:=.lst (xs.map aO)) (Z1:=Z6) (tN (v:=.rng 0 ((1+r:Nat):Int)) (vs:=(List.range (1+r)).map fun i:Nat=>V.int (0+(i:Int))) (fj (i:= "range") rfl (am (cF (u:=aO (1+r)) (v:=.int 1) (w:=aO r) rfl (e5 (N:=179) rfl rfl rfl) (by show some (V.int (1+(r:Int)))=some (V.int ((1+r:Nat):Int));refine aa (Int.natCast_add ..) ?_;rfl))) rfl) ((dy ⟨by decide,by unfold lim;exact JC r5⟩).trans (by exact aa (show (((1+r:Nat):Int) - 0).toNat=1+r by exact JB ..) (by rfl))) ec) (qP (fs:=bL D) rfl rfl g9' c5) ?_;refine bu rfl (v:=aO nn) (oR (d:=decide (((b:Nat):Int)=1)) (bq rfl rfl dG) (fun h=>?_) fun h=>?_) (qP (fs:=bL Da) rfl rfl ga (by simp [bL])) ?_
 ·have h:b=1:=by have:=ao h;exact JA this
  exact congrArg (fun m=>some (aO m,Z6.set 9 (.sdct (bL Da)))) (if_pos h).symm
 ·have h:b≠1:=by have:=of_decide_eq_false h;exact Jz this
  exact congrArg (fun m=>some (aO m,Z6.set 9 (.sdct (bL Da)))) (if_neg h).symm
 refine bu rfl (v:=.bool false) rfl (qP (fs:=bL Db) rfl rfl gb (by simp [bL])) (aY (k Dc _ a b v kk ⟨Hc,?_,?_,cQ gb,?_,hm,by exact ED hw hms,?_,?_,?_,⟨Int.natCast_nonneg _,by show ((v:Nat):Int)<8;exact EC r3⟩,(fun h=>nomatch h)⟩ rfl))
 ·exact (((F7.set (by decide)).set (by decide)).set (by decide)).mono (Jy r5)
 ·exact (ae (by decide)).trans ((ae (by decide)).trans ((ae (by decide)).trans g8'))
 ·exact aa (aF ..) (aa (aF ..) (aa (aF ..) (aa (l6 ..) (by rfl))))
 ·show xs.length<=4;exact Jx r5 m1
 ·intro x hx;have:=m3 x hx;exact ER hms this
 ·show (if b=1 then 0 else wide)<ms.length
  split<;>(first | exact Jw hms | exact EJ hms)
noncomputable def wN (ms:List Nat):b8:={w0 with doms:=ms,firsts:=ms}
theorem ja:∀ ms:List Nat,(∀ m∈ms,0<m/\m<32)->wt ms<=5*ms.length
 | [],_=>aU _
 | m::ms,h=>by
  have:=ja ms fun x hx=>h x (.tail _ hx);have h2:=i9 (h m (.head _)).2;show (bk m).length+wt ms<=5*(ms.length+1);exact Jv this h2
theorem A7 {ms:List Nat}(hm:∀ m∈ms,0<m/\m<32) (hl:ms.length<=4):Ws (wN ms):=by
 have:=ja ms hm;exact ⟨⟨.inl rfl,.inr (.inl rfl),show (6:Nat)≠7 by decide⟩,hl,hm,by show 0+wt ms<=100;exact EB hl this,by show 0<=20;decide,by show 0+wt ms<=100;exact EB hl this,fun e he=>by cases he⟩
theorem ix:∀ (bs:List (List Int)) (a:cI),a∈cr bs↔a.length=bs.length/\∀ (x:Nat) (b:List Int),bs[x]?=some b->a.getD x 0∈b:=by
 intro bs;refine fy (f:=ki) (b:=[[]]) (P:=fun done F=>∀ a:cI,a∈F↔a.length=done.length/\∀ (x:Nat) (b:List Int),done[x]?=some b->a.getD x 0∈b) (fun a=>?_) (fun done b F ih a=>?_) bs
 ·rw [an];exact ⟨fun h=>by subst h;exact ⟨rfl,fun x b h=>by exact aw h⟩,fun h=>List.eq_nil_of_length_eq_zero h.1⟩
 ·unfold ki;rw [List.mem_flatMap]
  constructor
  ·intro Q0;refine aB (Q0) fun a0 h0 ha=>?_;clear Q0;refine aB (aX.mp ha) fun v hv Q1=>?_;subst Q1;refine bl ((ih a0).mp h0) fun l g=>?_;refine ⟨by refine aa (ai ..) (aa (ai ..) (aa (l ..) ?_));rfl,fun x b' hx=>?_⟩;by_cases hlt:x<done.length
   ·rw [ba hlt] at hx;refine aa (gY (ze l hlt) ..) ?_;exact g x b' hx
   ·have hx2:=bj hx;rw [ai,aE] at hx2;have:x=done.length:=Ju hlt hx2;subst this;rw [List.getElem?_append_right (aU _),Nat.sub_self] at hx;refine bp hx ?_;refine aa (aH (l ..)) (aa (gX ..) ?_);exact hv
  ·intro Q2;refine bl (Q2) fun l g=>?_;clear Q2;rw [ai,aE] at l;rcases List.eq_nil_or_concat a with rfl | ⟨a0,v,rfl⟩
   ·simp at l
   rw [List.concat_eq_append] at *;have l0:a0.length=done.length:=by rw [ai,aE] at l;exact Jt l
   refine ⟨a0,(ih a0).mpr ⟨l0,fun x b' hx=>?_⟩,aX.mpr ⟨v,?_,rfl⟩⟩
   ·have hlt:=bj hx;have:=g x b' ((ba hlt).trans hx)
    rwa [gY (ze l0 hlt)] at this
   ·have:=g done.length b (by refine aa (List.getElem?_append_right (aU _) ..) (aa (Nat.sub_self ..) ?_);rfl)
    rwa [← l0,gX] at this
theorem k7 (bs:List (List Int)) (h:∀ b∈bs,b.length<=5):(cr bs).length<=5 ^ bs.length:=by
 refine fy (f:=ki) (b:=[[]]) (P:=fun done F=>(∀ b∈done,b.length<=5)->F.length<=5 ^ done.length) (fun ζ=>aU _) (fun done b F ih hb=>?_) bs h;have h1:=ih fun x hx=>hb x (aT _ hx);have h2:=ni (F:=F) (hb b (by simp));refine aa (ai ..) (aa (aE ..) (aa (Nat.pow_succ ..) ?_));exact EA h1 h2
noncomputable def qO (D:bC) (ms:List Nat):List cI:=(cr (ms.map bk)).filter fun a=>ff D a
noncomputable def cC (D:bC) (ms:List Nat):bC:={D with ans:=qO D ms}
theorem nA {D:bC}{a:cI}:ff D a=true↔jG D.kd D.C a:=by
 unfold ff jG
 cases D.kd with
 | true=>refine aa (if_pos rfl ..) ?_;exact decide_eq_true_iff
 | false=>refine aa (if_neg (by simp) ..) ?_;exact decide_eq_true_iff
theorem Do {D:bC}{ms:List Nat}{Z:ag}(ask:fu D.kd D.C Z) (K:kg fq (cC D ms) Z) (hm:∀ m∈ms,0<m/\m<32) (hl:ms.length<=4) (pl:D.C.taken.length<=4) (x:∀ x∈D.C.taken,x<ms.length) (n:D.C.n<ms.length) (v:0<=D.C.value/\D.C.value<8) (un:D.un=true->∃ k,D.C.taken=List.range k/\D.C.n=k/\ms.length=k+1):dT (cC D ms) (wN ms) Z:=by
 have hb:∀ b∈ms.map bk,b.length<=5:=fun b hb=>by refine aB (aX.mp hb) fun m h Q0=>?_;subst Q0;exact i9 (hm m h).2
 have mem:∀ a∈qO D ms,a.length=ms.length/\(∀ (x m:Nat),ms[x]?=some m->a.getD x 0∈bk m)/\jG D.kd D.C a:=fun a ha=>by
  refine bl (aV.mp ha) fun h1 h2=>?_;refine bl ((ix _ a).mp h1) fun l g=>?_;exact ⟨by exact aa (l ..) (aa (ah ..) (by rfl)),fun x m h=>g x _ (by refine aa (List.getElem?_map ..) (aa (h ..) ?_);rfl),nA.mp h2⟩
 refine ⟨ask,⟨pl,x,n,v⟩,fun a ha=>(mem a ha).2.2,fun a ha y hy=>?_,⟨K,hl,fun a ha=>(mem a ha).1,?_⟩,fun a h1 h2 h3=>?_,un⟩
 ·have:=(mem a ha).2.1 y _ (bU hy);exact qF (hm _ (List.mem_of_getElem? (bU hy))).2 this
 ·have h1:=k7 (ms.map bk) hb;have h2:(qO D ms).length<=(cr (ms.map bk)).length:=List.length_filter_le _ _;rw [ah] at h1;have h3:5 ^ ms.length<=5 ^ 4:=Nat.pow_le_pow_right (by decide) hl;show (qO D ms).length<=1000;lia
 ·refine aV.mpr ⟨(ix _ a).mpr ⟨by refine aa (h1 ..) (aa (ah ..) ?_);rfl,fun x b hx=>?_⟩,nA.mpr h3⟩;rw [List.getElem?_map] at hx
  induction hd:ms[x]? using Oy with
  | none=>rw [hd] at hx;exact aw hx
  | some m=>rw [hd] at hx;refine bp hx ?_;exact h2 x m hd
noncomputable def ρ5 (s:List Int) (wide:Nat) (a b v k:Nat) (ms:List Nat) (ex:aL):aL:=ρ1 s wide++[(T "boxes",.lst (gv ms)),(T "is_plain",aO a),(T "late",aO b),(T "value",aO v),(T "kind",aO k),(T "case",.own 9)]++ex
noncomputable def xp (D:bC) (ms:List Nat) (o:Option Nat) (more:aL):aL:=[(T "tuples",.lst ((cr (ms.map bk)).map bT))]++(match o with | none=>[] | some m=>[(T "box",co (bk m))])++more
noncomputable def Na (D:bC):aL:=[(T "some",.tup (D.C.taken.map aO)),(T "asker",.own 11)]
theorem BP {n:Nat}{Z:ag}{m:Nat}(ho:dI Z) (h:m<32):cV (n+2) 35 [co (bk m)] Z=some (cb m,Z):=li ho (by have:=i9 h;exact Js this)
theorem xK {n:Nat}{D:bC}:mN n (.sdct (fq D))=true:=by
 show (dA n _&&(cO n _&&(cO n _&&(cO n _&&(cO n _&&(dA n _&&true))))))=true;refine aa (bw (fun ζ=>rfl) ..) (aa (bw (fun ζ=>kX _) ..) ?_);rfl
noncomputable def dP (D:bC):ag:=match D.kd with
 | true=>c2 375 10 (yg D.C)
 | false=>c2 448 10 (yf D.C)
theorem Dn {n:Nat}{C:Cs}:mN n (.attrs (yg C))=true:=by
 refine List.all_eq_true.mpr fun p hp=>?_;simp only [yg,List.mem_cons,List.not_mem_nil,or_false] at hp;rcases hp with rfl | rfl | rfl | rfl | rfl | rfl<;>first | rfl | exact bw (fun ζ=>rfl) _
theorem Dl {n:Nat}{C:Cs}:mN n (.attrs (yf C))=true:=by
 refine List.all_eq_true.mpr fun p hp=>?_;simp only [yf,List.mem_cons,List.not_mem_nil,or_false] at hp;rcases hp with rfl | rfl | rfl | rfl | rfl<;>first | rfl | exact bw (fun ζ=>rfl) _
theorem wn {Z:ag}{C:Addr}{fs:List (Str×V)}(ho:dI Z) (hl:Z.length=10) (h:∀ n,mN n (.attrs fs)=true):dI (Z++c2 C 10 fs):=by
 have h1:=jo (c:=.attrs fs) ho (h _);have h2:=jo (c:=.inst C 10) h1 (aA (by refine aa (ez ..) (aa (hl ..) ?_);show 10<10+1+1;decide));rw [List.append_assoc] at h2;exact h2
theorem Mh {n:Nat}{s:List Int}{wide a b v kk:Nat}{D:bC}{ms:List Nat}{Z:ag}{Q:Fl->aL->ag->Prop}(d:sG D ms Z) (hv:aO v=.int D.C.value) (k:∀ Z (o:Nat),SH (wN ms) Z->dT (cC D ms) (wN ms) Z->cq Z 30->Z.length=12->Xs (bD (n+3)) 187 (ρ5 s wide a b v kk ms (xp D ms (some o) (Na D))) Z (iC 13) Q):Xs (bD (n+3)) 193 (ρ4 s wide a b v kk) Z (iC 7) Q:=by
 have hb:∀ b∈ms.map bk,b.length<=5:=fun b hb=>by refine aB (aX.mp hb) fun m h Q0=>?_;subst Q0;exact i9 (d.m m h).2
 have num:=d.num;have tl:=k7 (ms.map bk) hb;rw [ah] at tl;have t4:5 ^ ms.length<=5 ^ 4:=Nat.pow_le_pow_right (by decide) num;have em:gv ms=(ms.map bk).map co:=by unfold gv;refine aa (List.map_map ..) ?_;rfl
 have nd8:(8:Nat)≠1/\8≠2/\8≠3/\8≠4/\8≠5/\8≠w0.kM/\8≠w0.kN:=by decide
 have nd9:(9:Nat)≠1/\9≠2/\9≠3/\9≠4/\9≠5/\9≠w0.kM/\9≠w0.kN:=by decide
 have H1:SH w0 (Z.set 8 .dead):=gP d.sh rfl nd8;have g9:(Z.set 8 Cell.dead)[9]?=some (.sdct (bL D)):=(ae (by decide)).trans d.case;have F1:cq (Z.set 8 .dead) 30:=d.feed.set (by decide);have l1:(Z.set 8 Cell.dead).length=10:=by refine aa (aF ..) ?_;exact d.len
 have tu:=t9 (n:=n+2) (Z:=Z.set 8 .dead) (bs:=ms.map bk) H1.ok hb (by refine aa (ah ..) ?_;exact num);rw [← em] at tu;refine Ae (x:=T "boxes") rfl (k:=8) (l:=gv ms) rfl d.box (bx rfl (am rfl) tu) (ρ':=ρ5 s wide a b v kk ms (xp D ms none [])) rfl ?_;generalize Z.set 8 Cell.dead=τ at H1 g9 F1 l1 tu;have O:N7 D ms.length:=⟨d.pl,d.x,d.n,num⟩;refine bu rfl (v:=.lst ((qO D ms).map bT)) ((cN (enc:=bT) (as:=cr (ms.map bk)) (g:=fun a=>if ff D a then [bT a] else []) rfl (bB (aI (by lia))) (fun a ha=>ce (d:=ff D a) rfl (fG (bx rfl (ap rfl (am rfl)) (pH (fs:=bL) ⟨rfl,rfl,rfl,rfl⟩ H1.ok g9 O (by exact aa (((ix _ a).mp ha).1 ..) (aa (ah ..) (by rfl)))))) fun ζ=>rfl) rfl).trans (by refine aa (bV ..) ?_;rfl)) (qP (fs:=bL D) rfl rfl g9 (by simp [bL])) ?_;have H2:SH w0 (τ.set 9 (.sdct (fq (cC D ms)))):=gP H1 xK nd9;have K2:(τ.set 9 (.sdct (fq (cC D ms))))[9]?=some (.sdct (fq (cC D ms))):=cQ g9;have F2:cq (τ.set 9 (.sdct (fq (cC D ms)))) 30:=F1.set (by decide);have l2:(τ.set 9 (.sdct (fq (cC D ms)))).length=10:=by refine aa (aF ..) ?_;exact l1
 refine show Xs (bD (n+3)) 191 (ρ5 s wide a b v kk ms (xp D ms none [])) (τ.set 9 (.sdct (fq (cC D ms)))) (iC 9) Q from ?_;generalize τ.set 9 (.sdct (fq (cC D ms)))=υ at H2 K2 F2 l2;refine dg rfl rfl rfl (bB (aI (jJ num))) ?_;refine cm (enc:=fun m=>co (bk m)) (fun r ρ Z'=>∃ o done,(o=none->done=[])/\ρ=ρ5 s wide a b v kk ms (xp D ms o [])/\SH (wN done) Z'/\Z'[9]?=some (.sdct (fq (cC D ms)))/\cq Z' 30/\Z'.length=10/\done++r=ms) ⟨none,[],fun ζ=>rfl,rfl,H2,K2,F2,l2,rfl⟩ ?_ ?_
 ·intro ρ;intro Z';intro Q1;refine oP (Q1) fun o done ho Q2 H3 K3 F3 l3 e=>?_;clear Q1;subst Q2;rw [List.append_nil] at e;subst e;obtain ⟨o,rfl⟩:∃ m,o=some m:=by
   induction o using Oy with
   | none=>exact absurd d.n (by refine aa (ho rfl ..) ?_;exact Nat.not_lt_zero _)
   | some m=>exact ⟨m,rfl⟩
  have hd:∀ x∈done,0<x/\x<32:=d.m;have Wd:=A7 (ms:=done) hd num;have K3':kg fq (cC D done) Z':=K3;have hC:=vL (n:=n+1) (Z:=Z') (C:=D.C) d.pl;have hN:=DL (n:=n+1) (Z:=Z') (C:=D.C) d.pl;rw [l3] at hC hN;rw [hv.symm] at hC;refine bu rfl (v:=.tup (D.C.taken.map aO)) (fj (i:= "tuple") rfl (am (dF (v:=.lst (D.C.taken.map aO)) rfl (k:=9) rfl rfl K3 rfl)) (qM (aI (by have:=d.pl;exact jJ this)))) (ρ':=ρ5 s wide a b v kk done (xp D done (some o) [(T "some",.tup (D.C.taken.map aO))])) rfl ?_;refine bu rfl (v:=.own 11) (Z1:=Z'++dP D) (oR (d:=D.kd) (dF (v:=.bool D.kd) rfl (k:=9) rfl rfl K3 rfl) (fun h=>?_) (fun h=>?_)) (ρ':=ρ5 s wide a b v kk done (xp D done (some o) (Na D))) rfl ?_
  ·unfold dP;refine aa (h ..) ?_;exact bx rfl (ap (v:=.tup (D.C.taken.map aO)) rfl (ap (v:=aO v) rfl (am (v:=aO D.C.n) (dF rfl (k:=9) rfl rfl K3 rfl)))) hC
  ·unfold dP;refine aa (h ..) ?_;exact bx rfl (ap (v:=.tup (D.C.taken.map aO)) rfl (am (v:=aO D.C.n) (dF rfl (k:=9) rfl rfl K3 rfl))) hN
  have H5:SH (wN done) (Z'++dP D):=by
   unfold dP
   cases D.kd with
   | true=>exact kK H3 (wn H3.ok l3 fun ζ=>Dn)
   | false=>exact kK H3 (wn H3.ok l3 fun ζ=>Dl)
  have G:fu D.kd D.C (Z'++dP D):=by
   unfold dP
   cases D.kd with
   | true =>
    have ha:=uQ (Z:=Z') (C:=375) (k:=10) (fs:=yg D.C);have hi:=uP (Z:=Z') (C:=375) (k:=10) (fs:=yg D.C);rw [l3] at ha hi;exact ⟨ha,hi⟩
   | false =>
    have ha:=uQ (Z:=Z') (C:=448) (k:=10) (fs:=yf D.C);have hi:=uP (Z:=Z') (C:=448) (k:=10) (fs:=yf D.C);rw [l3] at ha hi;exact ⟨ha,hi⟩
  have K5:kg fq (cC D done) (Z'++dP D):=(fg (bj K3)).trans K3;have A5:=Do G K5 hd num d.pl d.x d.n d.v d.un;have l5:(Z'++dP D).length=12:=by
   refine aa (ez ..) (aa (l3 ..) ?_);unfold dP
   cases D.kd<;>rfl
  have F5:cq (Z'++dP D) 30:=by
   refine bQ F3 fun cells spot F hs=>?_;clear F3;exact ⟨cells,spot,⟨(fg (bj F.at')).trans F.at',F.len,F.s⟩,hs⟩
  have fo:=yB (n:=n+1) H5 Wd A5 (ts:=cr (done.map bk)) (fun a ha=>by refine aa (((ix _ a).mp ha).1 ..) (aa (ah ..) ?_);rfl) (by lia);exact bW rfl (d:=false) (di (d:=true) (bx (a:=528) rfl (ap (v:=.own 11) rfl (ap (v:=.own 9) rfl (am (v:=.lst ((cr (done.map bk)).map bT)) rfl))) fo)) (fun h=>nomatch h) fun ζ=>aY (k _ o H5 A5 F5 l5)
 ·intro m;intro r;intro ρ;intro Z';intro Q3;refine oP (Q3) fun o done ho Q4 H3 K3 F3 l3 e=>?_;clear Q3;subst Q4;have hmm:=d.m m (by refine aa (aH (e ..)) ?_;simp);have dl:done.length+1<=4:=by have:=congrArg List.length e;rw [ai,aR] at this;exact Ez num this
  have Wd:=A7 (ms:=done) (fun x hx=>d.m x (by refine aa (aH (e ..)) ?_;exact aT _ hx)) (Jr dl);refine bG (rj (n:=n+2) H3 Wd hmm (show done.length<=10 by exact Jq dl)) fun u Z2 e1 H4 F4=>?_;refine ⟨ρ5 s wide a b v kk ms (xp D ms (some m) []),by induction o using Oy<;>rfl,cJ rfl (dO H3 rfl rfl rfl (am (bx rfl (am rfl) (BP H3.ok hmm.2))) e1) (aY ⟨some m,done++[m],(fun h=>nomatch h),rfl,H4,(F4.at' 9 (by decide) (by decide) (by decide) (by decide) (show (9:Nat)≠6 by decide) (show (9:Nat)≠7 by decide)).trans K3,?_,F4.len.trans l3,by refine aa (List.append_assoc ..) ?_;exact e⟩)⟩;refine bQ F3 fun cells spot F hs=>?_;clear F3;exact ⟨cells,spot,⟨(F4.at' 0 (by decide) (by decide) (by decide) (by decide) (show (0:Nat)≠6 by decide) (show (0:Nat)≠7 by decide)).trans F.at',F.len,F.s⟩,hs⟩
theorem f6:∀ (l:List m8) (d:List Nat),(k5 l d).length=d.length
 | [],_=>rfl
 | e::l,d=>by
  show ((k5 l d).set e.x e.old).length=_;exact aa (aF ..) (aa (f6 l d ..) (by rfl))
theorem n7:∀ (l:List m8) (d:List Nat) (x:Nat),x<d.length->(k5 l d).getD x 0=oV l d x
 | [],_,_,_=>rfl
 | e::l,d,x,hx=>by
  show ((k5 l d).set e.x e.old).getD x 0=_;unfold oV;by_cases he:e.x=x
  ·subst he;refine aa (List.find?_cons_of_pos (by simp) ..) (aa (aQ ..) (aa (List.getElem?_set_self (by rw [f6];exact hx) ..) ?_));rfl
  ·refine aa (List.find?_cons_of_neg (by simpa using he) ..) (aa (aQ ..) (aa (ae he ..) (aa (aH (aQ ..)) (aa (n7 l d x hx ..) ?_))));rfl
theorem pB {w:b8}{i:Nat}:k5 (w.tr.drop i) w.doms=dp w i:=by
 apply List.ext_getElem?
 intro x;by_cases hx:x<w.doms.length
 ·refine aa (nM hx ..) (aa (aH (n7 _ _ _ hx ..)) (aa (aQ ..) ?_));refine aa (au (by rw [f6];exact hx) ..) ?_;rfl
 ·exact aa (List.getElem?_eq_none (by rw [f6];exact zd hx) ..) (aa (List.getElem?_eq_none (by unfold dp;rw [ah,List.length_range];exact zd hx) ..) (by rfl))
theorem si (l1 l2:List m8) (d:List Nat) (x:Nat) (hx:x<d.length):oV (l1++l2) d x=oV l1 (k5 l2 d) x:=by
 unfold oV;refine aa (List.find?_append ..) ?_
 cases List.find? (fun e=>e.x==x) l1 with
 | some e=>rfl
 | none=>exact (n7 l2 d x hx).symm
theorem qy {w:b8}{ms:List Nat}{mk a i:Nat}(hi:i<=mk) (hm:mk<=w.tr.length):dp (mR w ms mk a) i=dp w i:=by
 unfold dp mR;dsimp only;refine aa (f6 ..) ?_
 apply List.map_congr_left
 intro x hx;have hx:=List.mem_range.mp hx;have e:w.tr.drop i=(w.tr.take mk).drop i++w.tr.drop mk:=by
  have h1:=List.take_append_drop mk w.tr;have h2:(w.tr.take mk++w.tr.drop mk).drop i=(w.tr.take mk).drop i++w.tr.drop mk:=List.drop_append_of_le_length (by refine aa (List.length_take ..) ?_;exact K6 hi hm);exact aa (aH (h2 ..)) (aa (h1 ..) (by rfl))
 exact aa (e ..) (aa (si _ _ _ _ hx ..) (by rfl))
structure Lv (D:bC) (w:b8) (ls:List (Nat×List Nat)):Prop where
 marks:w.marks=ls.map (·.1)
 each:∀ p∈ls,p.1<=w.tr.length/\dp w p.1=p.2/\o8 D.kd D.C p.2/\∀ m∈p.2,0<m/\m<32
 inc:ls.Pairwise fun p q=>p.1<=q.1
theorem Lv.gd {D:bC}{w w':b8}{ls:List (Nat×List Nat)}{A:List cI}(h:Lv D w ls) (g:Gd A w w'):Lv D w' ls :=
 ⟨g.same.2.1.trans h.marks,fun p hp=>by
  refine ik (h.each p hp) fun a b c d=>?_;exact ⟨af a g.le,(g.ahead _ a).trans b,c,d⟩,h.inc⟩
theorem Lv.push {D : bC} {w : b8} {ls : List (Nat × List Nat)} (h : Lv D w ls) (W : Ws w) (S : o8 D.kd D.C w.doms) : Lv D {w with marks := w.marks ++ [w.tr.length]} (ls ++ [(w.tr.length, w.doms)]) := by
 refine ⟨by show w.marks ++ _ = _; refine aa (h.marks ..) (aa (aK ..) ?_); rfl, fun p hp => ?_, List.pairwise_append.mpr ⟨h.inc, List.pairwise_singleton _ _, fun p hp q hq => ?_⟩⟩
 ·rcases aN.mp hp with hp | hp
  ·exact h.each p hp
  ·refine aa (an.mp hp ..) ?_;exact ⟨aU _, me, S, W.dom⟩
 ·refine aa (an.mp hq ..) ?_; exact (h.each p hp).1
theorem Lv.dec {D:bC}{w:b8}{ls:List (Nat×List Nat)}{x m m' q:Nat}{l:cR}{y:Option (List cR)}{sp:Int}(h:Lv D w ls) (hx:w.doms[x]?=some m):Lv D {w with tr:=w.tr++[⟨x,m,l,y,sp⟩],doms:=w.doms.set x m',q:=q} ls :=
 ⟨h.marks,fun p hp=>by
  refine ik (h.each p hp) fun a b c d=>?_;exact ⟨by show p.1<=(w.tr++_).length;refine aa (ai ..) ?_;exact K4 a,(il hx a).trans b,c,d⟩,h.inc⟩
theorem Lv.pop {D:bC}{w:b8}{ls:List (Nat×List Nat)}{p:Nat×List Nat}{a:Nat}(h:Lv D w (ls++[p])):Lv D (mR w (ls.map (·.1)) p.1 a) ls/\(mR w (ls.map (·.1)) p.1 a).doms=p.2:=by
 refine ik (h.each p (by simp)) fun e1 e2 e3 e4=>?_;have inc:=List.pairwise_append.mp h.inc;refine ⟨⟨rfl,fun q hq=>?_,inc.1⟩,pB.trans e2⟩;refine ik (h.each q (aT _ hq)) fun a1 b1 c1 d1=>?_;have hle:=inc.2.2 q hq p (.head _);exact ⟨by show q.1<=(w.tr.take p.1).length;refine aa (List.length_take ..) ?_;exact K0 a1 hle,(qy hle e1).trans b1,c1,d1⟩
structure Lw (D:bC) (wd:Nat) (w:b8) (Z:ag) (ls:List (Nat×List Nat)) (k:Int):Prop where
 sh:SH w Z
 ws:Ws w
 ask:dT D w Z
 feed:cq Z k
 kept:Z[12]?=some (.lst (ls.map fun p=>cA p.2))
 lv:Lv D w ls
 len:13<=Z.length
 tw:w.tr.length+wt w.doms<=20
 kk:w.kM=6/\w.kN=7
 fst:∀ m∈w.firsts,0<m/\m<32
 wide:w.doms.length=wd
theorem cq.fr {Z Z':ag}{w:b8}{k:Int}(F:cq Z k) (W:Wk w) (f:Fr w Z Z'):cq Z' k:=by
 refine bQ F fun cells spot F hs=>?_;have hM:=W.kM.ne;have hN:=W.kN.ne;exact ⟨cells,spot,⟨(f.at' 0 (by decide) (by decide) (by decide) (by decide) (y8 hM) (y8 hN)).trans F.at',F.len,F.s⟩,hs⟩
theorem z7 {Z Z':ag}{w:b8}{c:Cell}(h:Z[12]?=some c) (W:Wk w) (f:Fr w Z Z'):Z'[12]?=some c:=by
 have hM:=W.kM.ne;have hN:=W.kN.ne;exact (f.at' 12 (by decide) (by decide) (by decide) (by decide) (Ey hM) (Ey hN)).trans h
noncomputable def NS (D:bC) (r:Int) (more:aL):aL:=Na D++[(T "said",.int r),(T "kept",.own 12)]++more
theorem Mg {n:Nat}{s:List Int}{wide a b v kk:Nat}{D:bC}{ms:List Nat}{o:Nat}{Z:ag}{Q:Fl->aL->ag->Prop}(hm:∀ m∈ms,0<m/\m<32) (hl:ms.length<=4) (H:SH (wN ms) Z) (A:dT (cC D ms) (wN ms) Z) (F:cq Z 30) (l:Z.length=12) (k:∀ r w Z',(r=1\/r=2)->Lw (cC D ms) ms.length w Z' [] 30->(r=1->w.failed=false/\o8 D.kd D.C w.doms)->Xs (bD (n+10)) 186 (ρ5 s wide a b v kk ms (xp D ms (some o) (NS D r []))) Z' (iC 14) Q):Xs (bD (n+10)) 187 (ρ5 s wide a b v kk ms (xp D ms (some o) (Na D))) Z (iC 13) Q:=by
 have W:=A7 hm hl;refine bQ (pJ (n:=n) H W rfl A) fun ζ Z' e Q0=>?_;refine oP (Q0) fun r w' Q1 H' F' r12 g W' hr=>?_;clear Q0;subst Q1;have l':Z'.length=12:=F'.len.trans l;have A':dT (cC D ms) w' (Z'++[.lst []]):=(A.gd W.toWk g F').app;have wb:=ja ms hm;refine bu rfl (v:=.tup [.int r,.own 12]) (Z1:=Z'++[.lst []]) (cf (ap (bx (a:=523) rfl (ap (v:=.own 2) rfl (ap (v:=.own 11) rfl (am (v:=.own 9) rfl))) e) (am ((dz b0 rfl).trans (by exact aa (l' ..) (by rfl)))))) (ρ':=ρ5 s wide a b v kk ms (xp D ms (some o) (NS D r []))) (fR rfl) (k r w' _ r12 ⟨gr H' rfl,W',A',(F.fr W.toWk F').app,by refine aa (aH (l' ..)) ?_;exact bJ,⟨g.same.2.1.trans rfl,(fun p hp=>by cases hp),.nil⟩,by refine aa (ez ..) (aa (l' ..) ?_);decide,?_,⟨g.same.2.2.1,g.same.2.2.2⟩,by refine aa (g.same.1 ..) ?_;exact hm,g.len⟩ hr);have:=g.wt;have e1:(wN ms).tr.length+wt (wN ms).doms=wt ms:=by show 0+wt ms=wt ms;exact Jp
 exact Jo hl wb this e1
theorem fu.but {kd:Bool}{C:Cs}{Z Z':ag}(h:fu kd C Z) (e:∀ i,i=10\/i=11->Z'[i]?=Z[i]?):fu kd C Z':=by
 induction kd using Oz with
 | true=>exact ⟨(e 10 (.inl rfl)).trans (AC.a h),(e 11 (.inr rfl)).trans (AC.i h)⟩
 | false=>exact ⟨(e 10 (.inl rfl)).trans (AN.a h),(e 11 (.inr rfl)).trans (AN.i h)⟩
theorem dT.but {D:bC}{w:b8}{Z Z':ag}(A:dT D w Z) (e:∀ i,i=9\/i=10\/i=11->Z'[i]?=Z[i]?):dT D w Z' :=
 ⟨A.ask.but fun i h=>e i (.inr h),A.O,A.hA,A.hB,⟨(e 9 (.inl rfl)).trans A.K.at',A.K.l,A.K.ans,A.K.num⟩,A.full,A.un⟩
theorem y2 {D:bC}{wd:Nat}{w:b8}{Z Z':ag}{ls:List (Nat×List Nat)}{k:Int}(L:Lw D wd w Z ls k) (S:o8 D.kd D.C w.doms) (H':SH {w with marks:=w.marks++[w.tr.length]} Z') (F:Fr w (Z.set 12 (.lst ((ls++[(w.tr.length,w.doms)]).map fun p=>cA p.2))) Z') (hl:ls.length<=10):Lw D wd {w with marks:=w.marks++[w.tr.length]} Z' (ls++[(w.tr.length,w.doms)]) k:=by
 have W:=L.ws;have ml:(w.marks++[w.tr.length]).length<=20:=by refine aa (L.lv.marks ..) (aa (ai ..) (aa (ah ..) (aa (aE ..) ?_)));exact Jm hl
 have W':Ws {w with marks:=w.marks++[w.tr.length]}:=⟨⟨W.kM,W.kN,W.ne⟩,W.len,W.dom,W.tr,ml,W.q,W.old⟩;have hM:=W.kM.ne;have hN:=W.kN.ne;have A:dT D w (Z.set 12 (.lst ((ls++[(w.tr.length,w.doms)]).map fun p=>cA p.2))):=L.ask.but fun i h=>ae (Jl h);have g:cq (Z.set 12 (.lst ((ls++[(w.tr.length,w.doms)]).map fun p=>cA p.2))) k:=L.feed.set (by decide);have h12:=cQ (c':=.lst ((ls++[(w.tr.length,w.doms)]).map fun p=>cA p.2)) L.kept;have A':dT D {w with marks:=w.marks++[w.tr.length]} Z':=⟨A.ask.fr W.toWk F,⟨A.O.len,A.O.x,A.O.n,A.O.v⟩,A.hA,A.hB,⟨(F.at' 9 (by decide) (by decide) (by decide) (by decide) (DC hM) (DC hN)).trans A.K.at',A.K.l,A.K.ans,A.K.num⟩,A.full,A.un⟩;exact ⟨H',W',A',g.fr W.toWk F,z7 h12 W.toWk F,L.lv.push W S,by refine aa (F.len ..) (aa (aF ..) ?_);exact L.len,L.tw,L.kk,L.fst,L.wide⟩
theorem Br {D:bC}{wd:Nat}{w:b8}{Z Z':ag}{ls:List (Nat×List Nat)}{k:Int}{x m:Nat}{l:cR}(L:Lw D wd w Z ls k) (hx:w.doms[x]?=some m) (hk:0<=l.k/\l.k<8) (h0:e9 l.s l.k m≠0) (h1:e9 l.s l.k m≠m) (H':SH {w with tr:=w.tr++[⟨x,m,l,none, -1⟩],doms:=w.doms.set x (e9 l.s l.k m),q:=w.q+1} Z') (F:Fr w Z Z'):Lw D wd {w with tr:=w.tr++[⟨x,m,l,none, -1⟩],doms:=w.doms.set x (e9 l.s l.k m),q:=w.q+1} Z' ls k:=by
 have W:=L.ws;have hm:=W.get hx;have FF:=fz (x:=0) (s:=l.s) hk hm.2;have lt:=xF hk hm.2 h1;have wsx:=qV (m':=e9 l.s l.k m) hx;have ht:(w.tr++[(⟨x,m,l,none, -1⟩:m8)]).length=w.tr.length+1:=by refine aa (ai ..) ?_;rfl
 have T:=W.tr;have Q:=W.q;have tw:=L.tw;have hln:(w.doms.set x (e9 l.s l.k m)).length=w.doms.length:=aF;have W':Ws {w with tr:=w.tr++[⟨x,m,l,none, -1⟩],doms:=w.doms.set x (e9 l.s l.k m),q:=w.q+1}:=by
  refine ⟨⟨W.kM,W.kN,W.ne⟩,by dsimp only;refine aa (hln ..) ?_;exact W.len,fun m' h=>?_,by dsimp only;refine aa (ht ..) ?_;exact Jk lt wsx tw,W.mks,by dsimp only;exact BI lt wsx Q,fun e he=>?_⟩
  ·rcases List.mem_or_eq_of_mem_set h with h | rfl
   ·exact W.dom m' h
   ·exact ⟨Nat.pos_of_ne_zero h0,FF.2.1⟩
  ·rcases aN.mp he with he | he
   ·have:=W.old e he;exact ⟨this.1,by dsimp only;refine aa (hln ..) ?_;exact this.2⟩
   ·cases an.mp he
    exact ⟨hm,by dsimp only;refine aa (hln ..) ?_;exact bj hx⟩
 have A:=L.ask;have hM:=W.kM.ne;have hN:=W.kN.ne;have A':dT D {w with tr:=w.tr++[⟨x,m,l,none, -1⟩],doms:=w.doms.set x (e9 l.s l.k m),q:=w.q+1} Z':=by
  refine ⟨A.ask.fr W.toWk F,⟨A.O.len,fun y hy=>by dsimp only;refine aa (hln ..) ?_;exact A.O.x y hy,by dsimp only;refine aa (hln ..) ?_;exact A.O.n,A.O.v⟩,A.hA,by dsimp only;refine aa (hln ..) ?_;exact A.hB,⟨(F.at' 9 (by decide) (by decide) (by decide) (by decide) (DC hM) (DC hN)).trans A.K.at',by dsimp only;refine aa (hln ..) ?_;exact A.K.l,by dsimp only;refine aa (hln ..) ?_;exact A.K.ans,A.K.num⟩,fun a h1 h2 h3=>A.full a (h1.trans hln) (fun y my hy=>?_) h3,fun hu=>?_⟩
  ·by_cases hxy:x=y
   ·subst hxy;rw [hx] at hy;refine bp hy ?_;have:=h2 x _ (List.getElem?_set_self (bj hx));rw [FF.2.2] at this;exact (aV.mp this).1
   ·exact h2 y my ((ae hxy).trans hy)
  ·refine bH (A.un hu) fun k q1 q2 q3=>?_;exact ⟨k,q1,q2,hln.trans q3⟩
 exact ⟨H',W',A',L.feed.fr W.toWk F,z7 L.kept W.toWk F,L.lv.dec hx,by refine aa (F.len ..) ?_;exact L.len,by dsimp only;refine aa (ht ..) ?_;exact Jj lt wsx tw,L.kk,L.fst,hln.trans L.wide⟩
theorem Bs {D:bC}{wd:Nat}{w w':b8}{Z Z':ag}{ls:List (Nat×List Nat)}{k:Int}{A:List cI}(L:Lw D wd w Z ls k) (hA:A=D.ans) (g:Gd A w w') (W':Ws w') (H':SH w' Z') (F:Fr w Z Z'):Lw D wd w' Z' ls k:=by
 subst hA;have tw:=L.tw;have:=g.wt;exact ⟨H',W',L.ask.gd L.ws.toWk g F,L.feed.fr L.ws.toWk F,z7 L.kept L.ws.toWk F,L.lv.gd g,by refine aa (F.len ..) ?_;exact L.len,by exact Ji tw this,⟨g.same.2.2.1.trans L.kk.1,g.same.2.2.2.trans L.kk.2⟩,by refine aa (g.same.1 ..) ?_;exact L.fst,g.len.trans L.wide⟩
theorem oA {D:bC}{wd:Nat}{w:b8}{Z Z':ag}{ls:List (Nat×List Nat)}{k k':Int}(L:Lw D wd w Z ls k) (H':SH w Z') (F:cq Z' k') (B:pf Z Z'):Lw D wd w Z' ls k':=by
 have A:=L.ask;have ask:fu D.kd D.C Z':=by
  have h:=A.ask
  induction hk:D.kd using Oz with
  | true=>rw [hk] at h;exact ⟨(B.at' 10 (by decide)).trans (AC.a h),(B.at' 11 (by decide)).trans (AC.i h)⟩
  | false=>rw [hk] at h;exact ⟨(B.at' 10 (by decide)).trans (AN.a h),(B.at' 11 (by decide)).trans (AN.i h)⟩
 exact ⟨H',L.ws,⟨ask,A.O,A.hA,A.hB,⟨(B.at' 9 (by decide)).trans A.K.at',A.K.l,A.K.ans,A.K.num⟩,A.full,A.un⟩,F,(B.at' 12 (by decide)).trans L.kept,L.lv,by refine aa (B.len ..) ?_;exact L.len,L.tw,L.kk,L.fst,L.wide⟩
noncomputable def Ag:Nat->Sg
 | 0=>.le
 | 1=>.ge
 | 2=>.eq
 | _=>.ne
theorem DN {r:Nat}(h:r<4):[V.str (T "<="),V.str (T ">="),V.str (T "="),V.str (T "!=")][r]?=some (.str (qT (Ag r))):=by
 match r,h with
 | 0,_=>rfl
 | 1,_=>rfl
 | 2,_=>rfl
 | 3,_=>rfl
theorem xP {ls:List (Nat×List Nat)}{p:Nat×List Nat}:(ls.map fun p=>cA p.2)++[cA p.2]=(ls++[p]).map fun p=>cA p.2:=by refine aa (aK ..) ?_;rfl
theorem DO {x m:Nat}{s:Sg}{k:Int}(hk:0<=k/\k<8) (hm:0<m/\m<32) (h:jk (nl x s k) (iv m)=0):e9 s k m≠0/\e9 s k m≠m:=by
 have F:=fz (x:=(x:Nat)) (s:=s) hk hm.2;unfold jk at h;have e:d3 (nl x s k) (iv m)=iv (e9 s k m):=F.1;rw [e] at h
 constructor
 ·intro h0;by_cases h1:iv (e9 s k m)=iv m
  ·rw [if_pos h1] at h;cases h
  ·rw [if_neg h1,if_pos ((gA ⟨_,F.2.1⟩).2.2.2.mpr h0)] at h;cases h
 ·intro h0;rw [h0,if_pos rfl] at h;cases h
noncomputable def Tl (tl:aL):Prop:=∀ p∈tl,p.1=T "lap" \/p.1=T "literal" \/p.1=T "mark"
noncomputable def Nu (x:Str):Bool:=x==T "lap" ||(x==T "literal" ||x==T "mark")
theorem Tl.none {tl:aL}{x:Str}(h:Tl tl) (hx:Nu x=false):lk x tl=none:=by
 induction tl with
 | nil=>rfl
 | cons p r ih =>
  obtain ⟨y,v⟩:=p;unfold lk;have hy:y≠x:=by
   rintro rfl
   rcases h _ (.head _) with q | q | q<;>(dsimp only at q;subst q;exact cg hx)
  refine aa (if_neg hy ..) ?_;exact ih fun p hp=>h p (.tail _ hp)
theorem Tl.st {tl:aL}{x:Str}{v:V}(h:Tl tl) (hx:x=T "lap" \/x=T "literal" \/x=T "mark"):Tl (st x v tl):=by
 induction tl with
 | nil=>intro p hp;cases an.mp hp;exact hx
 | cons q r ih =>
  obtain ⟨y,u⟩:=q;unfold Mine.st;by_cases e:y=x
  ·refine aa (if_pos e ..) ?_;intro p hp;rcases List.mem_cons.mp hp with rfl | hp
   ·subst e;exact hx
   ·exact h p (.tail _ hp)
  ·refine aa (if_neg e ..) ?_;intro p hp;rcases List.mem_cons.mp hp with rfl | hp
   ·exact h _ (.head _)
   ·exact ih (fun p hp=>h p (.tail _ hp)) p hp
theorem D9 {x:Str}{v:V}{r:aL}:lk x (st x v r)=some v:=by
 induction r with
 | nil=>exact if_pos rfl
 | cons q r ih =>
  obtain ⟨y,u⟩:=q;unfold st;by_cases e:y=x
  ·refine aa (if_pos e ..) ?_;exact if_pos e
  ·refine aa (if_neg e ..) ?_;exact (if_neg e).trans ih
theorem M3 {m N:Nat}{ρ:aL}{x:Str}{v:V}{p:Pos}{τ:ag}(h:lk x ρ=none) (h2:lk x G0=some v):ev (bD m) (N+1) ρ τ (.Name x p)=some (v,τ):=by
 show (match lk x ρ with | some v=>some (v,τ) | none=>(lk x G0).map (·,τ))=_;refine aa (h ..) (aa (h2 ..) ?_);rfl
noncomputable def LE (s:List Int) (wide a b v kk:Nat) (D:bC) (ms:List Nat) (o:Nat) (r:Int) (tl:aL):aL:=ρ5 s wide a b v kk ms (xp D ms (some o) (NS D r tl))
theorem wO {n:Nat}{D:bC}{wd:Nat}{w:b8}{Z:ag}{ls:List (Nat×List Nat)}{k c:Int}{x:Nat}{s:Sg}(L:Lw D wd w Z ls k) (hf:w.failed=false) (hx:x<wd) (hc:0<=c/\c<8) :
  ∃ z w' Z',cV (n+10) 218 [.own 2,bn (nl x s c)] Z=some (.int z,Z)/\Lw D wd w' Z' ls k/\w'.failed=false/\(decide (z=0)=true->cV (n+10) 239 [.own 2,bn (nl x s c)] Z=some (.bool true,Z'))/\(decide (z=0)=false->Z'=Z):=by
 have hl:x<w.doms.length:=by refine aa (L.wide ..) ?_;exact hx
 have hg:=bU hl;have hm:=L.ws.m hl;have e:=vF (n:=n+5) L.sh L.ws (l:=nl x s c) rfl hg;by_cases h0:jk (nl x s c) (iv (cv w.doms x))=0
 ·refine bl (DO hc hm h0) fun c1 c2=>?_;refine bK (ue (n:=n+4) L.sh L.ws (l:=nl x s c) rfl hc hg) fun ζ Z' e2 Q0 H' F'=>?_;subst Q0;have en:iT w (nl x s c) x (cv w.doms x) none (-1)=(true,{w with tr:=w.tr++[⟨x,cv w.doms x,nl x s c,none, -1⟩],doms:=w.doms.set x (e9 s c (cv w.doms x)),q:=w.q+1}):=by
   unfold iT;refine aa (if_neg (show ¬e9 (nl x s c).s (nl x s c).k (cv w.doms x)=0 from c1) ..) (aa (if_neg (show ¬e9 (nl x s c).s (nl x s c).k (cv w.doms x)=cv w.doms x from c2) ..) ?_);rfl
  rw [en] at e2 H';exact ⟨_,_,Z',e,Br (l:=nl x s c) L hg hc c1 c2 H' F',hf,fun ζ=>e2,fun h=>absurd h0 (of_decide_eq_false h)⟩
 ·exact ⟨_,w,Z,e,L,hf,fun h=>absurd (ao h) h0,fun ζ=>rfl⟩
theorem qC {m:Nat}{ls:List (Nat×List Nat)}:mN m (.lst (ls.map fun p=>cA p.2))=true:=bw (f:=fun p:Nat×List Nat=>cA p.2) (fun p=>show dA m (p.2.map fun k=>co (bk k))=true from bw (fun ζ=>jL _) _) _
theorem Mf {n:Nat}{s:List Int}{wide a b v kk:Nat}{D:bC}{ms:List Nat}{o:Nat}{r:Int}{w:b8}{Z:ag}{Q:Fl->aL->ag->Prop}(L:Lw (cC D ms) (wide+1) w Z [] 30) (hr:r=1\/r=2) (hS:r=1->w.failed=false/\o8 D.kd D.C w.doms) (k:∀ r w Z ls tl kk',Tl tl->(r=1\/r=2)->Lw (cC D ms) (wide+1) w Z ls kk'->ls.length<=3->Xs (bD (n+10)) 185 (LE s wide a b v kk D ms o r tl) Z (iC 15) Q):Xs (bD (n+10)) 186 (LE s wide a b v kk D ms o r []) Z (iC 14) Q:=by
 refine dg rfl rfl (fj (i:= "range") rfl (am rfl) rfl) (dy ⟨by decide,by decide⟩) ?_;refine cm (enc:=fun i:Nat=>V.int (0+(i:Int))) (fun q ρ Z'=>∃ r w ls tl kk',ρ=LE s wide a b v kk D ms o r tl/\(r=1\/r=2)/\Lw (cC D ms) (wide+1) w Z' ls kk'/\kk'+3*(q.length:Int)<=60/\ls.length+q.length<=3/\(r=1->w.failed=false/\o8 D.kd D.C w.doms)/\Tl tl) ⟨r,w,[],[],30,rfl,hr,L,by decide,by decide,hS,fun ζ h=>nomatch h⟩ ?_ ?_
 ·intro ρ;intro Z';intro Q0;refine oN (Q0) fun r w ls tl kk' Q1 hr L h1 h2 hS ht=>?_;clear Q0;subst Q1;exact k r w Z' ls tl kk' ht hr L h2
 ·intro i;intro q;intro ρ;intro Z';intro Q2;refine oN (Q2) fun r w ls tl kk' Q3 hr L h1 h2 hS ht=>?_;clear Q2;subst Q3;rw [aR] at h1 h2;have ht1:Tl (st (T "lap") (.int (0+(i:Int))) tl):=ht.st (.inl rfl);refine ⟨LE s wide a b v kk D ms o r (st (T "lap") (.int (0+(i:Int))) tl),rfl,?_⟩;generalize st (T "lap") (.int (0+(i:Int))) tl=tl at ht1;refine bW rfl (d:=decide (r=1)) (bq (v:=.int r) rfl rfl dG) (fun h=>?_) fun h=>aY (aY ⟨r,w,ls,tl,kk',rfl,hr,L,by exact Je h1,by exact Jd h2,hS,ht1⟩);refine bl (hS (ao h)) fun hf S=>?_;refine eA (jC (n:=n+9) (wide+1) L.sh L.ws.toWk L.feed (Jc h1) Jb) fun x σ1 x1 H1 F1 B1 e1=>?_;have L1:=oA L H1 F1 B1;refine eA (jC (n:=n+9) 4 L1.sh L1.ws.toWk L1.feed (Ja h1) (by decide)) fun g σ2 g1 H2 F2 B2 e2=>?_;have L2:=oA L1 H2 F2 B2;refine eA (jC (n:=n+9) 5 L2.sh L2.ws.toWk L2.feed (I9 h1) (by decide)) fun c σ3 c1 H3 F3 B3 e3=>?_;have L3:=oA L2 H3 F3 B3;have W:=L3.ws;refine bu rfl (v:=bn (nl x (Ag g) (c:Int))) (Z1:=σ3) (cf (ap (e1 (N:=171) rfl (ht1.none rfl) rfl) (ap (bI rfl rfl (e2 (N:=169) rfl (ht1.none rfl) rfl) rfl (by decide) (pi (j:=g) g1) (DN g1)) (am (e3 (N:=169) rfl (ht1.none rfl) rfl))))) (ρ':=LE s wide a b v kk D ms o r (st (T "literal") (bn (nl x (Ag g) (c:Int))) tl)) rfl ?_;have ht2:Tl (st (T "literal") (bn (nl x (Ag g) (c:Int))) tl):=ht1.st (.inr (.inl rfl));have hlit:lk (T "literal") (LE s wide a b v kk D ms o r (st (T "literal") (bn (nl x (Ag g) (c:Int))) tl))=some (bn (nl x (Ag g) (c:Int))):=D9 (r:=tl);generalize st (T "literal") (bn (nl x (Ag g) (c:Int))) tl=tl at ht2 hlit;have hM:=L3.kk;have H4:SH w (σ3.set 12 (.lst ((ls++[(w.tr.length,w.doms)]).map fun p=>cA p.2))):=gP H3 qC ⟨by decide,by decide,by decide,by decide,by decide,by exact I8 hM,by exact I7 hM⟩;refine cJ rfl (Z':=σ3.set 12 (.lst ((ls++[(w.tr.length,w.doms)]).map fun p=>cA p.2))) (c9 (k:=12) rfl L3.kept (am (bx (a:=484) (M3 (ht2.none rfl) rfl) (am (v:=.own 2) rfl) (jj (n:=n+8) H3 W))) L3.kept (aI (I6 h2)) (cK.trans (by exact aa (xP (p:=(w.tr.length,w.doms)) ..) (by rfl)))) ?_;refine bK (yy (n:=n+9) H4 W) fun ζ Z5 e5 Q4 H5 F5=>?_;subst Q4;have L5:=y2 L3 S H5 F5 (I5 h2);refine cJ rfl (dO H4 rfl rfl rfl b0 e5) ?_;refine fX (wO (n:=n) (s:=Ag g) (c:=c) L5 hf x1 ⟨by exact I4,by exact I3 c1⟩) fun z w6 Z6 eh L6 hf6 ed en=>?_;refine bW rfl (d:=false) (Z1:=Z6) ((fP (d:=decide (z=0)) (d':=false) (bq (dO H5 rfl rfl rfl (am (ur hlit)) eh) rfl dG) (fun h=>di (d:=true) (dO H5 rfl rfl rfl (am (ur hlit)) (ed h))) fun h=>⟨en h,rfl⟩).trans (by exact aa (Bool.and_false ..) (by rfl))) (fun h=>nomatch h) fun ζ=>aY ?_;refine bQ (pJ (n:=n) L6.sh L6.ws hf6 L6.ask) fun ζ Z7 e7 Q5=>?_;refine oP (Q5) fun r7 w7 Q6 H7 F7 r12 gg W7 hr7=>?_;clear Q5;subst Q6;exact bu rfl (bx (a:=523) (M3 (ht2.none rfl) rfl) (ap (v:=.own 2) rfl (ap (v:=.own 11) rfl (am (v:=.own 9) rfl))) e7) (ρ':=LE s wide a b v kk D ms o r7 tl) rfl (aY (aY ⟨r7,w7,_,tl,_,rfl,r12,Bs L6 rfl gg W7 H7 F7,by exact I0 h1,by refine aa (ai ..) (aa (aE ..) ?_);exact IY h2,hr7,ht2⟩))
structure Lz (D:bC) (wd:Nat) (w:b8) (Z:ag) (ls:List (Nat×List Nat)):Prop where
 sh:SH w Z
 ws:Ws w
 ask:fu D.kd D.C Z
 O:i7 D.C w
 hA:∀ a∈D.ans,jG D.kd D.C a
 hB:i5 D.ans w.doms.length
 kept:Z[12]?=some (.lst (ls.map fun p=>cA p.2))
 lv:Lv D w ls
 len:13<=Z.length
 tl:w.tr.length<=20
 fst:∀ m∈w.firsts,0<m/\m<32
 wide:w.doms.length=wd
theorem Lw.z {D:bC}{wd:Nat}{w:b8}{Z:ag}{ls:List (Nat×List Nat)}{k:Int}(L:Lw D wd w Z ls k):Lz D wd w Z ls:=⟨L.sh,L.ws,L.ask.ask,L.ask.O,L.ask.hA,L.ask.hB,L.kept,L.lv,L.len,by have:=L.tw;exact IX this,L.fst,L.wide⟩
theorem Bq {n:Nat}{D:bC}{wd:Nat}{w:b8}{Z:ag}{ls:List (Nat×List Nat)}{p:Nat×List Nat}(L:Lz D wd w Z (ls++[p])) :
  ∃ u w' Z',cV (n+1) 260 [.own 2,.int 1] Z=some (u,Z')/\w'.doms=p.2/\w'.failed=false/\o8 D.kd D.C w'.doms/\SH w' Z'/\Ws w'/\Z'[12]?=some (.lst ((ls++[p]).map fun p=>cA p.2))/\Lz D wd w' (Z'.set 12 (.lst (ls.map fun p=>cA p.2))) ls:=by
 have W:=L.ws;have hM:=W.kM.ne;have hN:=W.kN.ne;have hm:w.marks=ls.map (·.1)++[p.1]:=by refine aa (L.lv.marks ..) (aa (aK ..) ?_);rfl
 refine ik (L.lv.each p (by simp)) fun e1 e2 e3 e4=>?_;refine bK (Bb (n:=n) L.sh W hm e1 (fun e he=>(W.old e he).2) L.fst L.len) fun u Z' e H' l' F'=>?_;refine bl (L.lv.pop (a:=Z.length)) fun V hd=>?_;have Ln:=L.len;have Lt:=L.tl;have ln:(mR w (ls.map (·.1)) p.1 Z.length).doms.length=w.doms.length:=f6 _ _;have wb:=ja (mR w (ls.map (·.1)) p.1 Z.length).doms (by refine aa (hd ..) ?_;exact e4);have wl:=W.len;have tl:(w.tr.take p.1).length<=20:=by refine aa (List.length_take ..) ?_;exact IW Lt
 have W':Ws (mR w (ls.map (·.1)) p.1 Z.length):=by
  refine ⟨⟨.inr (.inr Ln),.inr (.inr (by show 13<=Z.length+1;exact BF Ln)),by show Z.length≠Z.length+1;exact GL⟩,by refine aa (ln ..) ?_;exact wl,by refine aa (hd ..) ?_;exact e4,by show (w.tr.take p.1).length+_<=100;exact IV ln wb wl tl,?_,by show 0+_<=100;exact IU ln wb wl,fun e he=>?_⟩
  ·have:=W.mks;rw [hm,ai] at this;show (ls.map (·.1)).length<=20;exact IT this
  ·refine aa (ln ..) ?_;exact W.old e (List.mem_of_mem_take he)
 have g:∀ i,i=9\/i=10\/i=11\/i=12->Z'[i]?=Z[i]?:=fun i h=>F' i (IS Ln h) (IR h) (IQ h) (IP h) (IO h) (Ew hM h) (Ew hN h);have A':=L.ask.but (Z':=Z') fun i h=>g i (IN h);have k12:=(g 12 (by decide)).trans L.kept;refine ⟨u,_,Z',e,hd,rfl,by refine aa (hd ..) ?_;exact e3,H',W',k12,?_⟩;exact ⟨gP H' qC ⟨by decide,by decide,by decide,by decide,by decide,by show 12≠Z.length;exact IM Ln,by show 12≠Z.length+1;exact IL Ln⟩,W',A'.but fun i h=>ae (IK h),⟨L.O.len,by refine aa (ln ..) ?_;exact L.O.x,by refine aa (ln ..) ?_;exact L.O.n,L.O.v⟩,L.hA,by refine aa (ln ..) ?_;exact L.hB,cQ k12,V,by refine aa (aF ..) ?_;exact IJ l' Ln,tl,L.fst,ln.trans L.wide⟩
theorem Lz.fr {D:bC}{wd:Nat}{w:b8}{Z Z':ag}{ls:List (Nat×List Nat)}(L:Lz D wd w Z ls) (H':SH w Z') (F:Fr w Z Z'):Lz D wd w Z' ls :=
 ⟨H',L.ws,L.ask.fr L.ws.toWk F,L.O,L.hA,L.hB,z7 L.kept L.ws.toWk F,L.lv,by refine aa (F.len ..) ?_;exact L.len,L.tl,L.fst,L.wide⟩
noncomputable def NE:Expr×List Stmt×Pos:=match (bd 41)[16]? with | some (Stmt.While t b _ p)=>(t,b,p) | _=>(default,[],default)
theorem DT (v:Int):ok 13 (.int v):=⟨rfl,rfl⟩
theorem zU (d:List Nat):ok 15 (cA d):=eJ (f:=fun m=>co (bk m)) (fun m=>eJ (f:=fun v=>V.int v) DT (bk m)) d
theorem qD (d:List Nat):ok 16 (cA d):=eJ (f:=fun m=>co (bk m)) (fun m=>eJ (f:=fun v=>V.int v) Ny (bk m)) d
theorem zS (ls:List (Nat×List Nat)):ok 16 (.lst (ls.map fun p=>cA p.2)):=eJ (f:=fun p:Nat×List Nat=>cA p.2) (fun p=>zU p.2) ls
theorem AJ {n:Nat}{s:List Int}{wide a b v kk:Nat}{D D0:bC}{ms:List Nat}{o:Nat}{r:Int}{wd:Nat}{Q:Fl->aL->ag->Prop}(hq:∀ tl w Z,Lz D wd w Z []->Q .next (LE s wide a b v kk D0 ms o r tl) Z) :
  ∀ (j:Nat) (ls:List (Nat×List Nat)) (tl:aL) (w:b8) (Z:ag) (F:Nat),ls.length=j->j<=1000->Tl tl->Lz D wd w Z ls->Wh (bD (n+10)) (F+j+30) (LE s wide a b v kk D0 ms o r tl) Z NE.1 NE.2.1 NE.2.2 Q
 | 0,ls,tl,w,Z,F,hl,hj,ht,L=>by
  have hl:=List.eq_nil_of_length_eq_zero hl;subst hl;refine wh (d:=false) (bq (v:=.own 12) rfl rfl (mq (d:=true) (a':=.lst []) (b':=.lst []) ?_ rfl ⟨rfl,rfl⟩ ⟨rfl,rfl⟩ ⟨fun ζ=>rfl,fun ζ=>rfl⟩)) (fun h=>nomatch h) fun ζ=>hq tl w Z L;show (match Z[12]? with | some (.lst l)=>V.lst l | _=>.own 12)=_;refine aa (L.kept ..) ?_;rfl
 | j+1,ls,tl,w,Z,F,hl,hj,ht,L=>by
  have hne:ls≠[]:=fun h=>by rw [h] at hl;cases hl
  obtain ⟨ls,p,rfl⟩:∃ l p,ls=l++[p]:=⟨_,_,(List.dropLast_concat_getLast hne).symm⟩;have hl':ls.length=j:=by rw [ai] at hl;exact Nat.succ.inj hl
  obtain ⟨u,w',Z',e,hd,hf,S,H',W',k12,L'⟩:=Bq (n:=n+9) L;refine wh (d:=true) (bq (v:=.own 12) rfl rfl (mq (d:=false) (a':=.lst ((ls++[p]).map fun p=>cA p.2)) (b':=.lst []) ?_ rfl (zS _) ⟨rfl,rfl⟩ ⟨(fun h=>nomatch h),fun h=>?_⟩)) (fun ζ=>?_) fun h=>nomatch h
  ·show (match Z[12]? with | some (.lst l)=>V.lst l | _=>.own 12)=_;exact aa (L.kept ..) (by rfl)
  ·rw [aK] at h;injection h with h;cases (List.append_eq_nil_iff.mp h).2
  refine cJ rfl (dO L.sh rfl rfl rfl (am rfl) e) ?_;have hbp:cA w'.doms=cA p.2:=by exact aa (hd ..) (by rfl)
  refine bW rfl (d:=false) (Z1:=Z'.set 12 (.lst (ls.map fun p=>cA p.2))) (bq (bx (a:=484) (M3 (ht.none rfl) rfl) (am (v:=.own 2) rfl) (jj (n:=n+8) H' W')) (c9 (k:=12) (v:=cA p.2) rfl k12 b0 k12 (aI ?_) (by refine aa (aK ..) ?_;exact Am)) (mq (d:=true) (a':=cA w'.doms) (b':=cA p.2) rfl rfl (qD _) (qD _) ⟨fun ζ=>hbp,fun ζ=>rfl⟩)) (fun h=>nomatch h) fun ζ=>aY ?_
  ·exact II hj hl
  refine cM (mH (n:=n+1) L'.sh L'.ws hf L'.ask L'.O L'.hA L'.hB) fun ok w2 σ2 H2 F2 U hcall=>?_;have elen:∀ {w:b8}{Z:ag}{N:Nat}{p p2 p3 p4:Pos}{tl:aL},Tl tl->SH w Z->Ws w->ev (bD (n+10)) (N+5) (LE s wide a b v kk D0 ms o r tl) Z (.Call (.Name (T "len") p) [.Attribute (.Name (T "store") p2) (T "trail") p3] [] p4)=some (aO w.tr.length,Z):=fun {w Z N p p2 p3 p4 tl} ht H W=>(cW (i:= "len") (M3 (ρ:=LE s wide a b v kk D0 ms o r tl) (ht.none rfl) rfl) (am (dX H rfl rfl rfl)) (cG (cD H.t) W.trl)).trans (by refine aa (ah ..) ?_;rfl);refine bu rfl (elen ht L'.sh L'.ws) (ρ':=LE s wide a b v kk D0 ms o r (st (T "mark") (aO w'.tr.length) tl)) rfl ?_;have ht2:Tl (st (T "mark") (aO w'.tr.length) tl):=ht.st (.inr (.inr rfl));have hmk:lk (T "mark") (LE s wide a b v kk D0 ms o r (st (T "mark") (aO w'.tr.length) tl))=some (aO w'.tr.length):=D9 (r:=tl);generalize st (T "mark") (aO w'.tr.length) tl=tl2 at ht2 hmk
  induction ok using Oz with
  | false=>exact absurd S (U.bad rfl).2
  | true =>
   obtain rfl:=(U.good rfl).2 S;refine bW rfl (d:=false) (rX (d:=false) (d':=false) (di (d:=true) (hcall rfl rfl)) (fun ζ=>(bq (elen ht2 H2 L'.ws) (w:=aO w2.tr.length) (ur hmk) AQ).trans (by refine aa (aA rfl ..) ?_;rfl)) (fun h=>nomatch h)) (fun h=>nomatch h) fun ζ=>aY (aY ?_);exact AJ hq j ls tl2 w2 σ2 F hl' (IG hj) ht2 (L'.fr H2 F2)
theorem Me {n:Nat}{s:List Int}{wide a b v kk:Nat}{D D':bC}{ms:List Nat}{o:Nat}{r:Int}{tl:aL}{wd:Nat}{w:b8}{Z:ag}{ls:List (Nat×List Nat)}{k:Int}(ht:Tl tl) (hr:r=1\/r=2) (L:Lw D' wd w Z ls k) (hl:ls.length<=3):Xs (bD (n+10)) 185 (LE s wide a b v kk D ms o r tl) Z (iC 15) (fun fl ζ ζ=>fl=.ret (.bool true)):=by
 refine bW rfl (d:=false) ((bq (v:=.int r) rfl rfl dG).trans (by exact aa (decide_eq_false (IF hr) ..) (by rfl))) (fun h=>nomatch h) fun ζ=>aY (i8 rfl ?_);have key:=AJ (n:=n) (s:=s) (wide:=wide) (a:=a) (b:=b) (v:=v) (kk:=kk) (D:=D') (D0:=D) (ms:=ms) (o:=o) (r:=r) (wd:=wd) (Q:=Nx (fun ρ Z=>Xs (bD (n+10)) 183 ρ Z (iC 17) (fun fl ζ ζ=>fl=.ret (.bool true))) (fun fl ζ ζ=>fl=.ret (.bool true))) (fun mk w Z ζ=>bo (v:=.bool true) rfl rfl rfl) ls.length ls tl w Z (153 - ls.length) rfl (IE hl) ht L.z;rw [show 153 - ls.length+ls.length+30=183 by exact ID hl] at key;exact key
theorem yR (s:List Int) (hs:s.length<=63):∃ Z',cV 12 533 [.lst (s.map .int)] []=some (.bool true,Z'):=by
 have X:Xs (bD 11) 200 [(T "script",.lst (s.map .int))] [] (bd 41) (fun fl ζ ζ=>fl=.ret (.bool true)):=by
  refine Ml (n:=9) hs fun wide Z w1 w3 H F l=>Mj (n:=10) ⟨w1,w3⟩ H F l fun ms Z hms hm H F l h8=>Mi (n:=10) ⟨w1,w3⟩ hms hm H F l h8 fun D Z a b v kk d hv=>Mh (n:=8) d hv fun Z o H A F l=>Mg (n:=1) hm (IC w3 hms) H A F l fun r w Z r12 L h1=>?_;rw [hms] at L;exact Mf (n:=1) L r12 h1 fun r w Z ls tl k ht r12 L hl=>Me (n:=1) ht r12 L hl
 refine cp X fun fl ρ Z e Q0=>?_;clear X;subst Q0;refine ⟨Z.take 0,?_⟩;show cL false [] (cB (bD 11) 200 [(T "script",.lst (s.map .int))] [] (bd 41))=_;refine aa (e ..) ?_;rfl
end Mine
end
section
open PySem PySem.W
set_option maxRecDepth 100000
set_option tactic.hygienic false
namespace Mine
noncomputable def sv (x:String) (t:Nat):Value:=.str (Str.ofString x) t
noncomputable def tS (i:Nat):Stmt:=(top[i]?).getD default
noncomputable def tM (i j:Nat):Stmt:=match top[i]? with
 | some (.ClassDef _ _ _ b _ _ _ _ _ _ _)=>(b[j]?).getD default
 | _=>default
noncomputable def fo (s:Stmt) (q:Str) (mod cd:Value) (cl:List (Str×Addr)) (ct:Value):Obj:=match s with
 | .FunctionDef n a b _ _ _ sc _ _ _=>⟨.type "function",none,.func ⟨n,q,a,.stmts b,sc,3,cl,.none,.none,.none,mod,none,cd,ct,0⟩,#[]⟩
 | _=>default
noncomputable def fl (c:Value) (l:List Value):Obj:=⟨c,none,.fields l.toArray,#[]⟩
noncomputable def dc (P:Params) (l:List (String×Nat×Value)) (n:Nat) (c:Value):Obj:=⟨c,none,.dict (l.map fun x=>⟨PyData.keyHash P (Str.ofString x.1),.str (Str.ofString x.1) x.2.1,x.2.2⟩).toArray n,#[]⟩
noncomputable def KK (P:Params):Frag:=[
 (2,dc P [] 0 (.none)),
 (3,dc P [("__name__",165,sv "law_no0324_01" 769),("__doc__",166,.none),("__package__",167,.none),("__loader__",168,.builtin "__main__.__loader__#opaque"),("__spec__",169,.none),("__annotations__",170,.ref 6),("__builtins__",171,.ref 4),("__file__",173,sv "/claim/cut.py" 172),("__cached__",174,.none),("_wall",193,.ref 21),("put_behind",204,.ref 28),("from_values",213,.ref 35),("least",220,.ref 42),("greatest",227,.ref 49),("size",233,.ref 54),("next_from",243,.ref 61),("has",251,.ref 68),("has_domains",252,.ref 68),("values",262,.ref 75),("up_to",268,.ref 80),("from_on",274,.ref 85),("without",282,.ref 92),("meet",295,.ref 99),("join",306,.ref 106),("negation",316,.ref 113),("struck",326,.ref 120),("said_of",335,.ref 127),("Store",530,.ref 277),("Propagator",585,.ref 319),("standing",600,.ref 330),("Count",661,.ref 375),("NumberOfValues",768,.ref 448),("_law_next",779,.ref 457),("_law_picked",785,.ref 462),("_law_tuples",791,.ref 467),("_law_is_met",801,.ref 474),("_law_means",807,.ref 479),("_law_boxes",813,.ref 484),("_law_within",823,.ref 491),("_law_domain_ahead",833,.ref 498),("_law_can_be",839,.ref 503),("_law_is_forced",845,.ref 508),("_law_clash_right",851,.ref 513),("_law_supported",857,.ref 518),("_law_asked",863,.ref 523),("_law_form_right",869,.ref 528),("law",875,.ref 533)] 47 (.type "dict")),
 (27,fl (.type "code") [sv "put_behind" 196,sv "put_behind" 197,sv "/claim/cut.py" 198,.int 5 0,.int 3 0,.int 0 0,.int 0 0,.int 3 0,.ref 22,.bool true,.int 181 0,.ref 23,.none,.ref 24,.ref 25,.ref 26,.int 202 0,.int 5 0,sv "/claim/cut.py" 203]),
 (28,fo (tS 2) (T "put_behind") (sv "fdsolve.domains" 194) (.ref 27) [] (.none)),
 (34,fl (.type "code") [sv "from_values" 205,sv "from_values" 206,sv "/claim/cut.py" 207,.int 11 0,.int 1 0,.int 0 0,.int 0 0,.int 3 0,.ref 29,.bool true,.int 181 0,.ref 30,.none,.ref 31,.ref 32,.ref 33,.int 211 0,.int 11 0,sv "/claim/cut.py" 212]),
 (35,fo (tS 3) (T "from_values") (sv "fdsolve.domains" 194) (.ref 34) [] (.none)),
 (41,fl (.type "code") [sv "least" 214,sv "least" 215,sv "/claim/cut.py" 216,.int 16 0,.int 1 0,.int 0 0,.int 0 0,.int 3 0,.ref 36,.bool true,.int 181 0,.ref 37,.none,.ref 38,.ref 39,.ref 40,.int 218 0,.int 16 0,sv "/claim/cut.py" 219]),
 (42,fo (tS 4) (T "least") (sv "fdsolve.domains" 194) (.ref 41) [] (.none)),
 (48,fl (.type "code") [sv "greatest" 221,sv "greatest" 222,sv "/claim/cut.py" 223,.int 18 0,.int 1 0,.int 0 0,.int 0 0,.int 3 0,.ref 43,.bool true,.int 181 0,.ref 44,.none,.ref 45,.ref 46,.ref 47,.int 225 0,.int 18 0,sv "/claim/cut.py" 226]),
 (49,fo (tS 5) (T "greatest") (sv "fdsolve.domains" 194) (.ref 48) [] (.none)),
 (53,fl (.type "code") [sv "size" 228,sv "size" 229,sv "/claim/cut.py" 230,.int 20 0,.int 1 0,.int 0 0,.int 0 0,.int 3 0,.ref 50,.bool true,.int 181 0,.ref 51,.none,.none,.none,.ref 52,.int 231 0,.int 20 0,sv "/claim/cut.py" 232]),
 (54,fo (tS 6) (T "size") (sv "fdsolve.domains" 194) (.ref 53) [] (.none)),
 (60,fl (.type "code") [sv "next_from" 234,sv "next_from" 235,sv "/claim/cut.py" 236,.int 22 0,.int 2 0,.int 0 0,.int 0 0,.int 3 0,.ref 55,.bool true,.int 181 0,.ref 56,.none,.ref 57,.ref 58,.ref 59,.int 241 0,.int 22 0,sv "/claim/cut.py" 242]),
 (61,fo (tS 7) (T "next_from") (sv "fdsolve.domains" 194) (.ref 60) [] (.none)),
 (67,fl (.type "code") [sv "has" 244,sv "has" 245,sv "/claim/cut.py" 246,.int 27 0,.int 2 0,.int 0 0,.int 0 0,.int 3 0,.ref 62,.bool true,.int 181 0,.ref 63,.none,.ref 64,.ref 65,.ref 66,.int 249 0,.int 27 0,sv "/claim/cut.py" 250]),
 (68,fo (tS 8) (T "has") (sv "fdsolve.domains" 194) (.ref 67) [] (.none)),
 (74,fl (.type "code") [sv "values" 253,sv "values" 254,sv "/claim/cut.py" 255,.int 30 0,.int 1 0,.int 0 0,.int 0 0,.int 3 0,.ref 69,.bool true,.int 181 0,.ref 70,.none,.ref 71,.ref 72,.ref 73,.int 260 0,.int 30 0,sv "/claim/cut.py" 261]),
 (75,fo (tS 10) (T "values") (sv "fdsolve.domains" 194) (.ref 74) [] (.none)),
 (79,fl (.type "code") [sv "up_to" 263,sv "up_to" 264,sv "/claim/cut.py" 265,.int 35 0,.int 2 0,.int 0 0,.int 0 0,.int 3 0,.ref 76,.bool true,.int 181 0,.ref 77,.none,.none,.none,.ref 78,.int 266 0,.int 35 0,sv "/claim/cut.py" 267]),
 (80,fo (tS 11) (T "up_to") (sv "fdsolve.domains" 194) (.ref 79) [] (.none)),
 (84,fl (.type "code") [sv "from_on" 269,sv "from_on" 270,sv "/claim/cut.py" 271,.int 37 0,.int 2 0,.int 0 0,.int 0 0,.int 3 0,.ref 81,.bool true,.int 181 0,.ref 82,.none,.none,.none,.ref 83,.int 272 0,.int 37 0,sv "/claim/cut.py" 273]),
 (85,fo (tS 12) (T "from_on") (sv "fdsolve.domains" 194) (.ref 84) [] (.none)),
 (91,fl (.type "code") [sv "without" 275,sv "without" 276,sv "/claim/cut.py" 277,.int 39 0,.int 2 0,.int 0 0,.int 0 0,.int 3 0,.ref 86,.bool true,.int 181 0,.ref 87,.none,.ref 88,.ref 89,.ref 90,.int 280 0,.int 39 0,sv "/claim/cut.py" 281]),
 (92,fo (tS 13) (T "without") (sv "fdsolve.domains" 194) (.ref 91) [] (.none)),
 (98,fl (.type "code") [sv "meet" 283,sv "meet" 284,sv "/claim/cut.py" 285,.int 41 0,.int 2 0,.int 0 0,.int 0 0,.int 3 0,.ref 93,.bool true,.int 181 0,.ref 94,.none,.ref 95,.ref 96,.ref 97,.int 293 0,.int 41 0,sv "/claim/cut.py" 294]),
 (99,fo (tS 14) (T "meet") (sv "fdsolve.domains" 194) (.ref 98) [] (.none)),
 (105,fl (.type "code") [sv "join" 296,sv "join" 297,sv "/claim/cut.py" 298,.int 52 0,.int 2 0,.int 0 0,.int 0 0,.int 3 0,.ref 100,.bool true,.int 181 0,.ref 101,.none,.ref 102,.ref 103,.ref 104,.int 304 0,.int 52 0,sv "/claim/cut.py" 305]),
 (106,fo (tS 15) (T "join") (sv "fdsolve.domains" 194) (.ref 105) [] (.none)),
 (112,fl (.type "code") [sv "negation" 307,sv "negation" 308,sv "/claim/cut.py" 309,.int 57 0,.int 1 0,.int 0 0,.int 0 0,.int 3 0,.ref 107,.bool true,.int 181 0,.ref 108,.none,.ref 109,.ref 110,.ref 111,.int 314 0,.int 57 0,sv "/claim/cut.py" 315]),
 (113,fo (tS 16) (T "negation") (sv "fdsolve.domains" 194) (.ref 112) [] (.none)),
 (119,fl (.type "code") [sv "struck" 317,sv "struck" 318,sv "/claim/cut.py" 319,.int 64 0,.int 2 0,.int 0 0,.int 0 0,.int 3 0,.ref 114,.bool true,.int 181 0,.ref 115,.none,.ref 116,.ref 117,.ref 118,.int 324 0,.int 64 0,sv "/claim/cut.py" 325]),
 (120,fo (tS 17) (T "struck") (sv "fdsolve.domains" 194) (.ref 119) [] (.none)),
 (126,fl (.type "code") [sv "said_of" 327,sv "said_of" 328,sv "/claim/cut.py" 329,.int 71 0,.int 2 0,.int 0 0,.int 0 0,.int 3 0,.ref 121,.bool true,.int 181 0,.ref 122,.none,.ref 123,.ref 124,.ref 125,.int 333 0,.int 71 0,sv "/claim/cut.py" 334]),
 (127,fo (tS 18) (T "said_of") (sv "fdsolve.domains" 194) (.ref 126) [] (.none)),
 (140,fl (.type "code") [sv "__init__" 350,sv "Store.__init__" 351,sv "/claim/cut.py" 352,.int 79 0,.int 1 0,.int 0 0,.int 0 0,.int 3 0,.ref 135,.bool true,.int 181 0,.ref 136,.none,.ref 137,.ref 138,.ref 139,.int 354 0,.int 79 0,sv "/claim/cut.py" 355]),
 (141,fo (tM 20 0) (T "Store.__init__") (sv "fdsolve.store" 336) (.ref 140) [] (.none)),
 (147,fl (.type "code") [sv "new_var" 357,sv "Store.new_var" 358,sv "/claim/cut.py" 359,.int 89 0,.int 2 0,.int 0 0,.int 0 0,.int 3 0,.ref 142,.bool true,.int 181 0,.ref 143,.none,.ref 144,.ref 145,.ref 146,.int 362 0,.int 89 0,sv "/claim/cut.py" 363]),
 (148,fo (tM 20 1) (T "Store.new_var") (sv "fdsolve.store" 336) (.ref 147) [] (.none)),
 (154,fl (.type "code") [sv "size" 365,sv "Store.size" 366,sv "/claim/cut.py" 367,.int 96 0,.int 1 0,.int 0 0,.int 0 0,.int 3 0,.ref 149,.bool true,.int 181 0,.ref 150,.none,.ref 151,.ref 152,.ref 153,.int 369 0,.int 96 0,sv "/claim/cut.py" 370]),
 (155,fo (tM 20 2) (T "Store.size") (sv "fdsolve.store" 336) (.ref 154) [] (.none)),
 (161,fl (.type "code") [sv "dom" 372,sv "Store.dom" 373,sv "/claim/cut.py" 374,.int 99 0,.int 2 0,.int 0 0,.int 0 0,.int 3 0,.ref 156,.bool true,.int 181 0,.ref 157,.none,.ref 158,.ref 159,.ref 160,.int 377 0,.int 99 0,sv "/claim/cut.py" 378]),
 (162,fo (tM 20 3) (T "Store.dom") (sv "fdsolve.store" 336) (.ref 161) [] (.none)),
 (175,fl (.type "code") [sv "low" 388,sv "Store.low" 389,sv "/claim/cut.py" 390,.int 105 0,.int 2 0,.int 0 0,.int 0 0,.int 3 0,.ref 170,.bool true,.int 181 0,.ref 171,.none,.ref 172,.ref 173,.ref 174,.int 393 0,.int 105 0,sv "/claim/cut.py" 394]),
 (176,fo (tM 20 5) (T "Store.low") (sv "fdsolve.store" 336) (.ref 175) [] (.none)),
 (182,fl (.type "code") [sv "high" 396,sv "Store.high" 397,sv "/claim/cut.py" 398,.int 108 0,.int 2 0,.int 0 0,.int 0 0,.int 3 0,.ref 177,.bool true,.int 181 0,.ref 178,.none,.ref 179,.ref 180,.ref 181,.int 401 0,.int 108 0,sv "/claim/cut.py" 402]),
 (183,fo (tM 20 6) (T "Store.high") (sv "fdsolve.store" 336) (.ref 182) [] (.none)),
 (189,fl (.type "code") [sv "has" 404,sv "Store.has" 405,sv "/claim/cut.py" 406,.int 111 0,.int 3 0,.int 0 0,.int 0 0,.int 3 0,.ref 184,.bool true,.int 181 0,.ref 185,.none,.ref 186,.ref 187,.ref 188,.int 410 0,.int 111 0,sv "/claim/cut.py" 411]),
 (190,fo (tM 20 7) (T "Store.has") (sv "fdsolve.store" 336) (.ref 189) [] (.none)),
 (196,fl (.type "code") [sv "is_fixed" 413,sv "Store.is_fixed" 414,sv "/claim/cut.py" 415,.int 114 0,.int 2 0,.int 0 0,.int 0 0,.int 3 0,.ref 191,.bool true,.int 181 0,.ref 192,.none,.ref 193,.ref 194,.ref 195,.int 419 0,.int 114 0,sv "/claim/cut.py" 420]),
 (197,fo (tM 20 8) (T "Store.is_fixed") (sv "fdsolve.store" 336) (.ref 196) [] (.none)),
 (203,fl (.type "code") [sv "value" 422,sv "Store.value" 423,sv "/claim/cut.py" 424,.int 118 0,.int 2 0,.int 0 0,.int 0 0,.int 3 0,.ref 198,.bool true,.int 181 0,.ref 199,.none,.ref 200,.ref 201,.ref 202,.int 427 0,.int 118 0,sv "/claim/cut.py" 428]),
 (204,fo (tM 20 9) (T "Store.value") (sv "fdsolve.store" 336) (.ref 203) [] (.none)),
 (217,fl (.type "code") [sv "holds" 438,sv "Store.holds" 439,sv "/claim/cut.py" 440,.int 124 0,.int 2 0,.int 0 0,.int 0 0,.int 3 0,.ref 212,.bool true,.int 181 0,.ref 213,.none,.ref 214,.ref 215,.ref 216,.int 443 0,.int 124 0,sv "/claim/cut.py" 444]),
 (218,fo (tM 20 11) (T "Store.holds") (sv "fdsolve.store" 336) (.ref 217) [] (.none)),
 (224,fl (.type "code") [sv "enter" 446,sv "Store.enter" 447,sv "/claim/cut.py" 448,.int 127 0,.int 4 0,.int 0 0,.int 0 0,.int 3 0,.ref 219,.bool true,.int 181 0,.ref 220,.none,.ref 221,.ref 222,.ref 223,.int 456 0,.int 127 0,sv "/claim/cut.py" 457]),
 (225,fo (tM 20 12) (T "Store.enter") (sv "fdsolve.store" 336) (.ref 224) [] (.none)),
 (231,fl (.type "code") [sv "strike" 459,sv "Store.strike" 460,sv "/claim/cut.py" 461,.int 140 0,.int 3 0,.int 0 0,.int 0 0,.int 3 0,.ref 226,.bool true,.int 181 0,.ref 227,.none,.ref 228,.ref 229,.ref 230,.int 465 0,.int 140 0,sv "/claim/cut.py" 466]),
 (232,fo (tM 20 13) (T "Store.strike") (sv "fdsolve.store" 336) (.ref 231) [] (.none)),
 (238,fl (.type "code") [sv "decide" 468,sv "Store.decide" 469,sv "/claim/cut.py" 470,.int 143 0,.int 2 0,.int 0 0,.int 0 0,.int 3 0,.ref 233,.bool true,.int 181 0,.ref 234,.none,.ref 235,.ref 236,.ref 237,.int 473 0,.int 143 0,sv "/claim/cut.py" 474]),
 (239,fo (tM 20 14) (T "Store.decide") (sv "fdsolve.store" 336) (.ref 238) [] (.none)),
 (245,fl (.type "code") [sv "fail" 476,sv "Store.fail" 477,sv "/claim/cut.py" 478,.int 146 0,.int 2 0,.int 0 0,.int 0 0,.int 3 0,.ref 240,.bool true,.int 181 0,.ref 241,.none,.ref 242,.ref 243,.ref 244,.int 481 0,.int 146 0,sv "/claim/cut.py" 482]),
 (246,fo (tM 20 15) (T "Store.fail") (sv "fdsolve.store" 336) (.ref 245) [] (.none)),
 (252,fl (.type "code") [sv "push" 484,sv "Store.push" 485,sv "/claim/cut.py" 486,.int 151 0,.int 1 0,.int 0 0,.int 0 0,.int 3 0,.ref 247,.bool true,.int 181 0,.ref 248,.none,.ref 249,.ref 250,.ref 251,.int 488 0,.int 151 0,sv "/claim/cut.py" 489]),
 (253,fo (tM 20 16) (T "Store.push") (sv "fdsolve.store" 336) (.ref 252) [] (.none)),
 (259,fl (.type "code") [sv "pop" 491,sv "Store.pop" 492,sv "/claim/cut.py" 493,.int 154 0,.int 2 0,.int 0 0,.int 0 0,.int 3 0,.ref 254,.bool true,.int 181 0,.ref 255,.none,.ref 256,.ref 257,.ref 258,.int 498 0,.int 154 0,sv "/claim/cut.py" 499]),
 (260,fo (tM 20 17) (T "Store.pop") (sv "fdsolve.store" 336) (.ref 259) [] (.none)),
 (276,dc P [("__module__",345,sv "fdsolve.store" 336),("__firstlineno__",349,.int 77 348),("__init__",356,.ref 141),("new_var",364,.ref 148),("size",371,.ref 155),("dom",379,.ref 162),("initial",387,.ref 169),("low",395,.ref 176),("high",403,.ref 183),("has",412,.ref 190),("is_fixed",421,.ref 197),("value",429,.ref 204),("width",437,.ref 211),("holds",445,.ref 218),("enter",458,.ref 225),("strike",467,.ref 232),("decide",475,.ref 239),("fail",483,.ref 246),("push",490,.ref 253),("pop",500,.ref 260),("depth",507,.ref 267),("changed",514,.ref 274),("__static_attributes__",523,.ref 275),("__dict__",525,.ref 278),("__weakref__",527,.ref 279),("__doc__",528,.none)] 4 (.type "dict")),
 (277,⟨.type "type",none,.cls ⟨T "Store",[.type "object"],[.ref 277,.type "object"],276,T "Store",true,[],[],false,none,false⟩,([none,none,some (sv "Store" 338),some (sv "Store" 346),some (.builtin "object.__new__"),some (.bool true)]:List (Option Value)).toArray⟩),
 (294,fl (.type "code") [sv "__init__" 543,sv "Propagator.__init__" 544,sv "/claim/cut.py" 545,.int 173 0,.int 3 0,.int 0 0,.int 0 0,.int 3 0,.ref 289,.bool true,.int 181 0,.ref 290,.none,.ref 291,.ref 292,.ref 293,.int 549 0,.int 173 0,sv "/claim/cut.py" 550]),
 (295,fo (tM 21 0) (T "Propagator.__init__") (sv "fdsolve.store" 336) (.ref 294) [] (.none)),
 (318,dc P [("__module__",538,sv "fdsolve.store" 336),("__firstlineno__",542,.int 171 541),("__init__",551,.ref 295),("propagate",559,.ref 302),("check",567,.ref 309),("told",574,.ref 316),("__static_attributes__",578,.ref 317),("__dict__",580,.ref 320),("__weakref__",582,.ref 321),("__doc__",583,.none)] 4 (.type "dict")),
 (319,⟨.type "type",none,.cls ⟨T "Propagator",[.type "object"],[.ref 319,.type "object"],318,T "Propagator",true,[],[.ref 375,.ref 448],false,none,false⟩,([none,none,some (sv "Propagator" 531),some (sv "Propagator" 539),some (.builtin "object.__new__"),some (.bool true)]:List (Option Value)).toArray⟩),
 (329,fl (.type "code") [sv "standing" 588,sv "standing" 589,sv "/claim/cut.py" 590,.int 187 0,.int 2 0,.int 0 0,.int 0 0,.int 3 0,.ref 324,.bool true,.int 181 0,.ref 325,.none,.ref 326,.ref 327,.ref 328,.int 598 0,.int 187 0,sv "/claim/cut.py" 599]),
 (330,fo (tS 23) (T "standing") (sv "fdsolve.counts" 586) (.ref 329) [] (.none)),
 (334,⟨.type "cell",none,.cell (some (.ref 375)),#[]⟩),
 (345,fl (.type "code") [sv "__init__" 613,sv "Count.__init__" 614,sv "/claim/cut.py" 615,.int 196 0,.int 4 0,.int 0 0,.int 0 0,.int 3 0,.ref 340,.bool true,.int 181 0,.ref 341,.none,.ref 342,.ref 343,.ref 344,.int 621 0,.int 196 0,sv "/claim/cut.py" 622]),
 (346,fo (tM 24 0) (T "Count.__init__") (sv "fdsolve.counts" 586) (.ref 345) [(T "__class__",334)] (.ref 339)),
 (352,fl (.type "code") [sv "propagate" 624,sv "Count.propagate" 625,sv "/claim/cut.py" 626,.int 202 0,.int 2 0,.int 0 0,.int 0 0,.int 3 0,.ref 347,.bool true,.int 181 0,.ref 348,.none,.ref 349,.ref 350,.ref 351,.int 630 0,.int 202 0,sv "/claim/cut.py" 631]),
 (353,fo (tM 24 1) (T "Count.propagate") (sv "fdsolve.counts" 586) (.ref 352) [] (.none)),
 (357,fl (.type "code") [sv "strike_once" 633,sv "Count.strike_once" 634,sv "/claim/cut.py" 635,.int 210 0,.int 2 0,.int 0 0,.int 0 0,.int 3 0,.ref 354,.bool true,.int 181 0,.ref 355,.none,.none,.none,.ref 356,.int 636 0,.int 210 0,sv "/claim/cut.py" 637]),
 (358,fo (tM 24 2) (T "Count.strike_once") (sv "fdsolve.counts" 586) (.ref 357) [] (.none)),
 (364,fl (.type "code") [sv "check" 639,sv "Count.check" 640,sv "/claim/cut.py" 641,.int 230 0,.int 2 0,.int 0 0,.int 0 0,.int 3 0,.ref 359,.bool true,.int 181 0,.ref 360,.none,.ref 361,.ref 362,.ref 363,.int 644 0,.int 230 0,sv "/claim/cut.py" 645]),
 (365,fo (tM 24 3) (T "Count.check") (sv "fdsolve.counts" 586) (.ref 364) [] (.none)),
 (371,fl (.type "code") [sv "told" 647,sv "Count.told" 648,sv "/claim/cut.py" 649,.int 233 0,.int 1 0,.int 0 0,.int 0 0,.int 3 0,.ref 366,.bool true,.int 181 0,.ref 367,.none,.ref 368,.ref 369,.ref 370,.int 651 0,.int 233 0,sv "/claim/cut.py" 652]),
 (372,fo (tM 24 4) (T "Count.told") (sv "fdsolve.counts" 586) (.ref 371) [] (.none)),
 (374,dc P [("__module__",608,sv "fdsolve.counts" 586),("__firstlineno__",612,.int 194 611),("__init__",623,.ref 346),("propagate",632,.ref 353),("strike_once",638,.ref 358),("check",646,.ref 365),("told",653,.ref 372),("__static_attributes__",657,.ref 373),("__doc__",659,.none)] 3 (.type "dict")),
 (375,⟨.type "type",none,.cls ⟨T "Count",[.ref 319],[.ref 375,.ref 319,.type "object"],374,T "Count",true,[],[],false,none,false⟩,([some (.ref 331),none,some (sv "Count" 601),some (sv "Count" 609),some (.builtin "object.__new__"),some (.bool true)]:List (Option Value)).toArray⟩),
 (381,⟨.type "cell",none,.cell (some (.ref 448)),#[]⟩),
 (392,fl (.type "code") [sv "__init__" 674,sv "NumberOfValues.__init__" 675,sv "/claim/cut.py" 676,.int 237 0,.int 3 0,.int 0 0,.int 0 0,.int 3 0,.ref 387,.bool true,.int 181 0,.ref 388,.none,.ref 389,.ref 390,.ref 391,.int 681 0,.int 237 0,sv "/claim/cut.py" 682]),
 (393,fo (tM 25 0) (T "NumberOfValues.__init__") (sv "fdsolve.counts" 586) (.ref 392) [(T "__class__",381)] (.ref 386)),
 (399,fl (.type "code") [sv "propagate" 684,sv "NumberOfValues.propagate" 685,sv "/claim/cut.py" 686,.int 242 0,.int 2 0,.int 0 0,.int 0 0,.int 3 0,.ref 394,.bool true,.int 181 0,.ref 395,.none,.ref 396,.ref 397,.ref 398,.int 690 0,.int 242 0,sv "/claim/cut.py" 691]),
 (400,fo (tM 25 1) (T "NumberOfValues.propagate") (sv "fdsolve.counts" 586) (.ref 399) [] (.none)),
 (404,fl (.type "code") [sv "bound_below" 693,sv "NumberOfValues.bound_below" 694,sv "/claim/cut.py" 695,.int 250 0,.int 2 0,.int 0 0,.int 0 0,.int 3 0,.ref 401,.bool true,.int 181 0,.ref 402,.none,.none,.none,.ref 403,.int 696 0,.int 250 0,sv "/claim/cut.py" 697]),
 (405,fo (tM 25 2) (T "NumberOfValues.bound_below") (sv "fdsolve.counts" 586) (.ref 404) [] (.none)),
 (411,fl (.type "code") [sv "fixed_ones" 699,sv "NumberOfValues.fixed_ones" 700,sv "/claim/cut.py" 701,.int 258 0,.int 2 0,.int 0 0,.int 0 0,.int 3 0,.ref 406,.bool true,.int 181 0,.ref 407,.none,.ref 408,.ref 409,.ref 410,.int 708 0,.int 258 0,sv "/claim/cut.py" 709]),
 (412,fo (tM 25 3) (T "NumberOfValues.fixed_ones") (sv "fdsolve.counts" 586) (.ref 411) [] (.none)),
 (418,fl (.type "code") [sv "bound_above" 711,sv "NumberOfValues.bound_above" 712,sv "/claim/cut.py" 713,.int 268 0,.int 2 0,.int 0 0,.int 0 0,.int 3 0,.ref 413,.bool true,.int 181 0,.ref 414,.none,.ref 415,.ref 416,.ref 417,.int 722 0,.int 268 0,sv "/claim/cut.py" 723]),
 (419,fo (tM 25 4) (T "NumberOfValues.bound_above") (sv "fdsolve.counts" 586) (.ref 418) [] (.none)),
 (423,fl (.type "code") [sv "bar_values" 725,sv "NumberOfValues.bar_values" 726,sv "/claim/cut.py" 727,.int 276 0,.int 2 0,.int 0 0,.int 0 0,.int 3 0,.ref 420,.bool true,.int 181 0,.ref 421,.none,.none,.none,.ref 422,.int 728 0,.int 276 0,sv "/claim/cut.py" 729]),
 (424,fo (tM 25 5) (T "NumberOfValues.bar_values") (sv "fdsolve.counts" 586) (.ref 423) [] (.none)),
 (430,fl (.type "code") [sv "bar_all" 731,sv "NumberOfValues.bar_all" 732,sv "/claim/cut.py" 733,.int 287 0,.int 6 0,.int 0 0,.int 0 0,.int 3 0,.ref 425,.bool true,.int 181 0,.ref 426,.none,.ref 427,.ref 428,.ref 429,.int 742 0,.int 287 0,sv "/claim/cut.py" 743]),
 (431,fo (tM 25 6) (T "NumberOfValues.bar_all") (sv "fdsolve.counts" 586) (.ref 430) [] (.none)),
 (437,fl (.type "code") [sv "check" 745,sv "NumberOfValues.check" 746,sv "/claim/cut.py" 747,.int 294 0,.int 2 0,.int 0 0,.int 0 0,.int 3 0,.ref 432,.bool true,.int 181 0,.ref 433,.none,.ref 434,.ref 435,.ref 436,.int 752 0,.int 294 0,sv "/claim/cut.py" 753]),
 (438,fo (tM 25 7) (T "NumberOfValues.check") (sv "fdsolve.counts" 586) (.ref 437) [] (.none)),
 (444,fl (.type "code") [sv "told" 755,sv "NumberOfValues.told" 756,sv "/claim/cut.py" 757,.int 301 0,.int 1 0,.int 0 0,.int 0 0,.int 3 0,.ref 439,.bool true,.int 181 0,.ref 440,.none,.ref 441,.ref 442,.ref 443,.int 759 0,.int 301 0,sv "/claim/cut.py" 760]),
 (445,fo (tM 25 8) (T "NumberOfValues.told") (sv "fdsolve.counts" 586) (.ref 444) [] (.none)),
 (447,dc P [("__module__",669,sv "fdsolve.counts" 586),("__firstlineno__",673,.int 235 672),("__init__",683,.ref 393),("propagate",692,.ref 400),("bound_below",698,.ref 405),("fixed_ones",710,.ref 412),("bound_above",724,.ref 419),("bar_values",730,.ref 424),("bar_all",744,.ref 431),("check",754,.ref 438),("told",761,.ref 445),("__static_attributes__",764,.ref 446),("__doc__",766,.none)] 3 (.type "dict")),
 (448,⟨.type "type",none,.cls ⟨T "NumberOfValues",[.ref 319],[.ref 448,.ref 319,.type "object"],447,T "NumberOfValues",true,[],[],false,none,false⟩,([some (.ref 378),none,some (sv "NumberOfValues" 662),some (sv "NumberOfValues" 670),some (.builtin "object.__new__"),some (.bool true)]:List (Option Value)).toArray⟩),
 (456,fl (.type "code") [sv "_law_next" 771,sv "_law_next" 772,sv "/claim/cut.py" 773,.int 304 0,.int 2 0,.int 0 0,.int 0 0,.int 3 0,.ref 451,.bool true,.int 181 0,.ref 452,.none,.ref 453,.ref 454,.ref 455,.int 777 0,.int 304 0,sv "/claim/cut.py" 778]),
 (457,fo (tS 27) (T "_law_next") (sv "law_no0324_01" 769) (.ref 456) [] (.none)),
 (461,fl (.type "code") [sv "_law_picked" 780,sv "_law_picked" 781,sv "/claim/cut.py" 782,.int 310 0,.int 2 0,.int 0 0,.int 0 0,.int 3 0,.ref 458,.bool true,.int 181 0,.ref 459,.none,.none,.none,.ref 460,.int 783 0,.int 310 0,sv "/claim/cut.py" 784]),
 (462,fo (tS 28) (T "_law_picked") (sv "law_no0324_01" 769) (.ref 461) [] (.none)),
 (466,fl (.type "code") [sv "_law_tuples" 786,sv "_law_tuples" 787,sv "/claim/cut.py" 788,.int 312 0,.int 1 0,.int 0 0,.int 0 0,.int 3 0,.ref 463,.bool true,.int 181 0,.ref 464,.none,.none,.none,.ref 465,.int 789 0,.int 312 0,sv "/claim/cut.py" 790]),
 (467,fo (tS 29) (T "_law_tuples") (sv "law_no0324_01" 769) (.ref 466) [] (.none)),
 (473,fl (.type "code") [sv "_law_is_met" 792,sv "_law_is_met" 793,sv "/claim/cut.py" 794,.int 317 0,.int 2 0,.int 0 0,.int 0 0,.int 3 0,.ref 468,.bool true,.int 181 0,.ref 469,.none,.ref 470,.ref 471,.ref 472,.int 799 0,.int 317 0,sv "/claim/cut.py" 800]),
 (474,fo (tS 30) (T "_law_is_met") (sv "law_no0324_01" 769) (.ref 473) [] (.none)),
 (478,fl (.type "code") [sv "_law_means" 802,sv "_law_means" 803,sv "/claim/cut.py" 804,.int 324 0,.int 2 0,.int 0 0,.int 0 0,.int 3 0,.ref 475,.bool true,.int 181 0,.ref 476,.none,.none,.none,.ref 477,.int 805 0,.int 324 0,sv "/claim/cut.py" 806]),
 (479,fo (tS 31) (T "_law_means") (sv "law_no0324_01" 769) (.ref 478) [] (.none)),
 (483,fl (.type "code") [sv "_law_boxes" 808,sv "_law_boxes" 809,sv "/claim/cut.py" 810,.int 331 0,.int 1 0,.int 0 0,.int 0 0,.int 3 0,.ref 480,.bool true,.int 181 0,.ref 481,.none,.none,.none,.ref 482,.int 811 0,.int 331 0,sv "/claim/cut.py" 812]),
 (484,fo (tS 32) (T "_law_boxes") (sv "law_no0324_01" 769) (.ref 483) [] (.none)),
 (490,fl (.type "code") [sv "_law_within" 814,sv "_law_within" 815,sv "/claim/cut.py" 816,.int 333 0,.int 2 0,.int 0 0,.int 0 0,.int 3 0,.ref 485,.bool true,.int 181 0,.ref 486,.none,.ref 487,.ref 488,.ref 489,.int 821 0,.int 333 0,sv "/claim/cut.py" 822]),
 (491,fo (tS 33) (T "_law_within") (sv "law_no0324_01" 769) (.ref 490) [] (.none)),
 (497,fl (.type "code") [sv "_law_domain_ahead" 824,sv "_law_domain_ahead" 825,sv "/claim/cut.py" 826,.int 338 0,.int 3 0,.int 0 0,.int 0 0,.int 3 0,.ref 492,.bool true,.int 181 0,.ref 493,.none,.ref 494,.ref 495,.ref 496,.int 831 0,.int 338 0,sv "/claim/cut.py" 832]),
 (498,fo (tS 34) (T "_law_domain_ahead") (sv "law_no0324_01" 769) (.ref 497) [] (.none)),
 (502,fl (.type "code") [sv "_law_can_be" 834,sv "_law_can_be" 835,sv "/claim/cut.py" 836,.int 343 0,.int 3 0,.int 0 0,.int 0 0,.int 3 0,.ref 499,.bool true,.int 181 0,.ref 500,.none,.none,.none,.ref 501,.int 837 0,.int 343 0,sv "/claim/cut.py" 838]),
 (503,fo (tS 35) (T "_law_can_be") (sv "law_no0324_01" 769) (.ref 502) [] (.none)),
 (507,fl (.type "code") [sv "_law_is_forced" 840,sv "_law_is_forced" 841,sv "/claim/cut.py" 842,.int 349 0,.int 3 0,.int 0 0,.int 0 0,.int 3 0,.ref 504,.bool true,.int 181 0,.ref 505,.none,.none,.none,.ref 506,.int 843 0,.int 349 0,sv "/claim/cut.py" 844]),
 (508,fo (tS 36) (T "_law_is_forced") (sv "law_no0324_01" 769) (.ref 507) [] (.none)),
 (512,fl (.type "code") [sv "_law_clash_right" 846,sv "_law_clash_right" 847,sv "/claim/cut.py" 848,.int 357 0,.int 2 0,.int 0 0,.int 0 0,.int 3 0,.ref 509,.bool true,.int 181 0,.ref 510,.none,.none,.none,.ref 511,.int 849 0,.int 357 0,sv "/claim/cut.py" 850]),
 (513,fo (tS 37) (T "_law_clash_right") (sv "law_no0324_01" 769) (.ref 512) [] (.none)),
 (517,fl (.type "code") [sv "_law_supported" 852,sv "_law_supported" 853,sv "/claim/cut.py" 854,.int 362 0,.int 3 0,.int 0 0,.int 0 0,.int 3 0,.ref 514,.bool true,.int 181 0,.ref 515,.none,.none,.none,.ref 516,.int 855 0,.int 362 0,sv "/claim/cut.py" 856]),
 (518,fo (tS 38) (T "_law_supported") (sv "law_no0324_01" 769) (.ref 517) [] (.none)),
 (522,fl (.type "code") [sv "_law_asked" 858,sv "_law_asked" 859,sv "/claim/cut.py" 860,.int 368 0,.int 3 0,.int 0 0,.int 0 0,.int 3 0,.ref 519,.bool true,.int 181 0,.ref 520,.none,.none,.none,.ref 521,.int 861 0,.int 368 0,sv "/claim/cut.py" 862]),
 (523,fo (tS 39) (T "_law_asked") (sv "law_no0324_01" 769) (.ref 522) [] (.none)),
 (527,fl (.type "code") [sv "_law_form_right" 864,sv "_law_form_right" 865,sv "/claim/cut.py" 866,.int 391 0,.int 3 0,.int 0 0,.int 0 0,.int 3 0,.ref 524,.bool true,.int 181 0,.ref 525,.none,.none,.none,.ref 526,.int 867 0,.int 391 0,sv "/claim/cut.py" 868]),
 (528,fo (tS 40) (T "_law_form_right") (sv "law_no0324_01" 769) (.ref 527) [] (.none)),
 (532,fl (.type "code") [sv "law" 870,sv "law" 871,sv "/claim/cut.py" 872,.int 403 0,.int 1 0,.int 0 0,.int 0 0,.int 3 0,.ref 529,.bool true,.int 181 0,.ref 530,.none,.none,.none,.ref 531,.int 873 0,.int 403 0,sv "/claim/cut.py" 874]),
 (533,fo (tS 41) (T "law") (sv "law_no0324_01" 769) (.ref 532) [] (.none))]
noncomputable def Oj:List Addr:=[2,3,27,28,34,35,41,42,48,49,53,54,60,61,67,68,74,75,79,80,84,85,91,92,98,99,105,106,112,113,119,120,126,127,140,141,147,148,154,155,161,162,175,176,182,183,189,190,196,197,203,204,217,218,224,225,231,232,238,239,245,246,252,253,259,260,276,277,294,295,318,319,329,330,334,345,346,352,353,357,358,364,365,371,372,374,375,381,392,393,399,400,404,405,411,412,418,419,423,424,430,431,437,438,444,445,447,448,456,457,461,462,466,467,473,474,478,479,483,484,490,491,497,498,502,503,507,508,512,513,517,518,522,523,527,528,532,533]
theorem Dr (P:Params):Oj=(KK P).map (·.1):=rfl
noncomputable def pw:Program:=PySem.Challenge.pw_no0324_01
noncomputable def qw:Program:=view pw [41]
noncomputable def jd (tb:String->Option Builtin) (p:Program) (w:World) (n0:Nat) (ann:Option Value):Nat->SharedT->Thread->Option SharedT
 | 0,_,_=>none
 | n+1,s,t=>match through t with
  | true=>some s
  | false=>match stepOk n0 ann t with
   | false=>none
   | true=>match stepT (denote tb) p w s t with
    | some (s',t')=>jd tb p w n0 ann n s' t'
    | none=>none
theorem nj {tb:String->Option Builtin}{p:Program}{w:World}{n0:Nat}{ann:Option Value}:∀ {n:Nat}{s s':SharedT}{t:Thread},jd tb p w n0 ann n s t=some s'->topRun tb p w n0 ann n s.abs t=some s'.abs
 | 0,_,_,_,h=>by cases h
 | n+1,s,s',t,h=>by
  unfold jd at h
  unfold topRun
  cases he:through t with
  | true=>rw [he] at h;cases h;rfl
  | false =>
   rw [he] at h
   cases hk:stepOk n0 ann t with
   | false=>rw [hk] at h;cases h
   | true =>
    rw [hk] at h
    cases hs:stepT (denote tb) p w s t with
    | none=>rw [hs] at h;cases h
    | some r=>obtain ⟨sb,tc⟩:=r;rw [hs] at h;rw [stepT_spec hs];exact nj h
noncomputable def wU:Nat->List Obj->BT->BT
 | _,[],t=>t
 | n,o::r,t=>wU (n+1) r (t.ins n o)
noncomputable def T0 (P:Params):BT:=wU 0 (boot_heap P).objs.toList .nil
noncomputable def S0 (w:World) (os:OsState):SharedT:=⟨T0 w.params,11,(boot_heap w.params).life,Array.mk [],boot_drawn,boot_toks,os⟩
theorem Dt (P:Params):absHeap (T0 P) 11 (boot_heap P).life=boot_heap P:=by kernel_rfl
end Mine
end
section
open PySem PySem.W PyProof.Rows
set_option maxRecDepth 100000
namespace Mine
noncomputable def Xt (_:Shared):Bool:=true
noncomputable def Yf (s:Shared):List (Option Obj):=Oj.map s.heap.get?
noncomputable def Ya (w:World):List (Option Obj):=(KK w.params).map fun p=>some p.2
noncomputable def jS:List Str:=["_wall", "put_behind", "from_values", "least", "greatest", "size", "next_from", "has", "has_domains", "values", "up_to", "from_on", "without", "meet", "join", "negation", "struck", "said_of", "Store", "Propagator", "standing", "Count", "NumberOfValues", "_law_next", "_law_picked", "_law_tuples", "_law_is_met", "_law_means", "_law_boxes", "_law_within", "_law_domain_ahead", "_law_can_be", "_law_is_forced", "_law_clash_right", "_law_supported", "_law_asked", "_law_form_right"].map Str.ofString
noncomputable def look (w:World) (s:Shared):=((staticsOk (importedModules pw.main.body) (boot_heap w.params) s.heap&&namesBound pw s.heap&&gensDone s&&laidKept (boot_heap w.params) s.heap),openSeen qw jS (importedModules pw.main.body) Xt true s,Yf s)
theorem yN (w:World) (os:OsState):(jd treeTable pw w 11 (some (.ref 6)) 3200 (S0 w os) (topStub pw)).map (fun s=>look w s.abs)=some (true,openGood qw jS,Ya w):=by kernel_rfl
end Mine
end
section
open PySem PySem.W PyProof.Rows
set_option maxRecDepth 100000
set_option tactic.hygienic false
namespace Mine
theorem zh {p q:Program}{loose:List Str}{Xt:Shared->Bool}{α:Type}{Yf:Shared->α}{Ya:World->α}{N:Nat}{g0:Bool}{Hg:Params->Heap}{gs0:Array GenState}{db:Drawn}{k0 ma:Nat}{ann:Option Value}
  (open_:∀ w:World,(fencedOpening treeTable p w N).map (fun s=>(s.heap,s.gens,s.drawn,s.toks))=some (Hg w.params,gs0,db,k0))
  (size:∀ w:World,((Hg w.params).isNs mainGlobals&&gs0.size==0,(Hg w.params).objs.size,(Hg w.params).nsMap mainGlobals "__annotations__")=(true,ma,ann))
  (run:∀ (w:World) (os:OsState),∃ sa,topRun treeTable p w ma ann N ⟨Hg w.params,gs0,db,k0,os⟩ (topStub p)=some sa /\
   (staticsOk (importedModules p.main.body) (Hg w.params) sa.heap&&namesBound p sa.heap&&gensDone sa&&laidKept (Hg w.params) sa.heap)=true/\(openSeen q loose (importedModules p.main.body) Xt g0 sa,Yf sa)=(openGood q loose,Ya w)):LeftO p q loose Xt Yf Ya N g0:=fun w=>by
 obtain ⟨⟨h,gs,d,k,os⟩,e,e'⟩:=Option.map_eq_some_iff.mp (open_ w)
 obtain ⟨rfl,rfl,rfl,rfl⟩:h=Hg w.params/\gs=gs0/\d=db/\k=k0:=by simpa using e'
 obtain ⟨z1,z2,z3⟩:_/\_/\_:=by simpa only [Prod.mk.injEq] using size w
 obtain ⟨sa,r,l1,l2⟩:=run w os
 have t:topFrom treeTable p w N ⟨Hg w.params,gs,d,k,os⟩=some sa:=by
  unfold topFrom
  dsimp only
  rw [z1,z2,z3,r]
  show (match staticsOk (importedModules p.main.body) (Hg w.params) sa.heap&&namesBound p sa.heap&&gensDone sa&&laidKept (Hg w.params) sa.heap with | true=>_ | false=>_)=_
  rw [l1]
 unfold openEnds
 rw [e]
 show (topFrom treeTable p w N _).map _=_
 rw [t]
 exact congrArg some l2
theorem Bf {p:Program}{w:World}{H:Heap}{T:BT}{n:Nat}{life:Life}{gs:Array GenState}{d:Drawn}{k ma N:Nat}{ann:Option Value}{os:OsState}{α β:Type}{look:Shared->Bool×α×β}{a:α}{b:β}(e:absHeap T n life=H)
  (h:(jd treeTable p w ma ann N ⟨T,n,life,gs,d,k,os⟩ (topStub p)).map (fun s=>look s.abs)=some (true,a,b)) :
  ∃ sa,topRun treeTable p w ma ann N ⟨H,gs,d,k,os⟩ (topStub p)=some sa/\(look sa).1=true/\((look sa).2.1,(look sa).2.2)=(a,b):=by
 obtain ⟨s,r1,r2⟩:=Option.map_eq_some_iff.mp h
 have r3:=nj r1
 unfold SharedT.abs at r3
 rw [e] at r3
 exact ⟨_,r3,congrArg Prod.fst r2,congrArg Prod.snd r2⟩
theorem vP (w:World):((boot_heap w.params).isNs mainGlobals&&(Array.mk []:Array GenState).size==0,(boot_heap w.params).objs.size,(boot_heap w.params).nsMap mainGlobals "__annotations__")=(true,11,some (.ref 6)):=by kernel_rfl
theorem yT:opening pw=plainProg pw.main.scope.names:=by kernel_rfl
theorem xj (s:Shared):fenceModules? pw s=some s:=by kernel_rfl
theorem left:LeftO pw qw jS Xt Yf Ya 3200 :=
 zh (boot_open yT rfl xj) vP fun w os=>Bf (look:=look w) (Dt w.params) (yN w os)
end Mine
end
section
set_option tactic.hygienic false
open PySem PySem.W PyProof.Rows
set_option maxRecDepth 100000
namespace Mine
noncomputable def rl:OpenLaw:=PySem.Challenge.rw_no0324_01
noncomputable def mV:DefRec:=match tS 41 with | .FunctionDef n a b _ _ _ sc _ _ p=>⟨n,a,b,sc,p⟩ | _=>⟨T "",default,[],default,default⟩
theorem wellSaid:rl.wellSaid=true:=by kernel_rfl
theorem Mp:defOf qw rl.row.name=some (mV,[]):=by kernel_rfl
theorem Os:rl.row.prog.theDef rl.row.name=some (mV.params,mV.body,mV.scope):=by kernel_rfl
theorem Ot:kwWritten? mV.params.kwonlyargs mV.params.kw_defaults=some []:=by kernel_rfl
theorem NP:(!rl.row.writes||rl.row.records.isEmpty)=true:=by kernel_rfl
theorem NQ:(chainsOk qw&&opensWell rl.row.prog&&(frees rl.row.toRowW&&rl.row.within.isEmpty))=true:=by kernel_rfl
end Mine
namespace Mine
theorem MO:rl.row.prog.bare:=⟨rfl,rfl,rfl,rfl,rfl,by kernel_rfl⟩
theorem Nt:rl.row.toRowW.promised:=⟨[.list []],by kernel_rfl,by kernel_rfl⟩
theorem holds (call:WalkO qw jS (fun ζ ζ=>True) (fun w h=>(KK w.params).In h) rl.row.toRowW mV [] fun f vs=>PySem.call f vs):PySem.Challenge.rw_no0324_01.Holds :=
 holds_law (l:=rl) wellSaid fun said=>holds_open (r:=rl.row) (q:=qw) (loose:=jS) (Xt:=Xt) (XP:=fun ζ ζ=>True) (Yf:=Yf) (Ya:=Ya) (YP:=fun w h=>(KK w.params).In h) (d:=mV) (kwd:=[]) (N:=3200)
  left (fun w s e=>Frag.in_of (Dr _) e) (fun w h h' x k=>Frag.In.keeps x k) (fun ζ ζ=>trivial) (fun ζ ζ ζ ζ ζ=>trivial) Mp Os Ot (fun ζ ζ=>recFacts_nil rfl) NP said NQ MO Nt call
end Mine
end
section
open PySem PySem.W PyProof.Rows
set_option maxRecDepth 100000
set_option tactic.hygienic false
namespace Mine
theorem th {K:Frag}{base:Heap}{a n:Nat}{es:Array DictEntry}{mg:Str->Option Value}(X:K.In base) (h:K.lookup a=some ⟨.type "dict",none,.dict es n,#[]⟩) (g:base.Ns a mg) (x:Str):mg x=nsFind es x:=by
 obtain ⟨o,es',ep,h1,h2,h3,h4⟩:=g
 rw [X a _ h] at h1
 cases h1
 cases h2
 exact (h4 x).symm
noncomputable def oL (P:Params):Array DictEntry:=match (KK P).lookup 3 with
 | some ⟨_,_,.dict es _,_⟩=>es
 | _=>#[]
theorem to (P:Params):(KK P).lookup 3=some ⟨.type "dict",none,.dict (oL P) 47,#[]⟩:=by kernel_rfl
noncomputable def Ou (P:Params) (p:Str×V):Bool:=match p.2 with
 | .raw v=>(nsFind (oL P) p.1==some v)||((nsFind (oL P) p.1).isNone&&(p.1!= "__name__" &&bootBuiltins p.1==some v))
 | _=>false
theorem Mq (P:Params):G0.all (Ou P)=true:=by kernel_rfl
theorem oC {α:Type}{x:Str}{d:α}:∀ {l:List (Str×α)},lk x l=some d->(x,d)∈l
 | [],h=>by cases h
 | (y,v)::r,h=>by
  unfold lk at h
  split at h
  ·rename_i e;subst e;cases h;exact .head _
  ·exact .tail _ (oC h)
theorem zv {P:Params}{base:Heap}{mg mb:Str->Option Value}(X:(KK P).In base) (g:base.Ns mainGlobals mg) (b:base.Ns builtinsNs mb) (hb:∀ x:Str,x≠ "__name__" ->mb x=bootBuiltins x) (x:Str) (d:V) (h:lk x G0=some d) :
  ∃ v,d=.raw v/\∃ mg mb,base.Ns mainGlobals mg/\base.Ns builtinsNs mb/\(mg x=some v\/(mg x=none/\mb x=some v)):=by
 have q:=List.all_eq_true.mp (Mq P) _ (oC h)
 have e:=th X (to P) g
 cases d with
 | raw v =>
  refine ⟨v,rfl,mg,mb,g,b,?_⟩
  rw [e x]
  rcases Bool.or_eq_true_iff.mp q with q | q
  ·exact .inl (beq_iff_eq.mp q)
  ·have q:=ay.mp q
   have q2:=ay.mp q.2
   exact .inr ⟨Option.isNone_iff_eq_none.mp q.1,(hb x (bne_iff_ne.mp q2.1)).trans (beq_iff_eq.mp q2.2)⟩
 | _=>cases q
noncomputable def M6 (K:Frag) (C:Addr) (p:Str×Addr):Bool:=plainGet K C p.1&&(findIn K (.ref C) p.1==some (some (.ref p.2))&&isFn K (.ref p.2))
theorem D8 (P:Params):(wF.all (M6 (KK P) 277)&&(wG.all (M6 (KK P) 375)&&Oe.all (M6 (KK P) 448)))=true:=by kernel_rfl
theorem rG {K:Frag}{C:Addr}{x:Str}{f:Addr}{l:List (Str×Addr)}(h:l.all (M6 K C)=true) (e:lk x l=some f):plainGet K C x=true/\findIn K (.ref C) x=some (some (.ref f))/\isFn K (.ref f)=true:=by
 have q:=ay.mp (List.all_eq_true.mp h _ (oC e))
 have q2:=ay.mp q.2
 exact ⟨q.1,beq_iff_eq.mp q2.1,q2.2⟩
theorem y1 (P:Params) (C:Addr) (x:Str) (f:Addr) (h:rD C x=some f):plainGet (KK P) C x=true/\findIn (KK P) (.ref C) x=some (some (.ref f))/\isFn (KK P) (.ref f)=true:=by
 have q:=ay.mp (D8 P)
 have q2:=ay.mp q.2
 unfold rD at h
 by_cases h1:C=277
 ·rw [if_pos h1] at h;subst h1;exact rG q.1 h
 rw [if_neg h1] at h
 by_cases h2:C=375
 ·rw [if_pos h2] at h;subst h2;exact rG q2.1 h
 rw [if_neg h2] at h
 by_cases h3:C=448
 ·rw [if_pos h3] at h;subst h3;exact rG q2.2 h
 rw [if_neg h3] at h
 cases h
noncomputable def Nf (K:Frag) (C:Addr) (p:Str×Unit):Bool:=plainGet K C p.1&&(hasDictIn K C&&((match findIn K (.ref C) p.1 with | some a=>noGet K a | none=>false)&&(plainOver K C&&(takerIn K C p.1==some none&&findIn K (.ref C) "__setattr__" ==some (some (.builtin "object.__setattr__"))))))
theorem MS (P:Params):(qN.all (Nf (KK P) 277)&&(jF.all (Nf (KK P) 375)&&jF.all (Nf (KK P) 448)))=true:=by kernel_rfl
noncomputable def A6 (K:Frag) (C:Addr) (x:Str):Prop:=plainGet K C x=true/\hasDictIn K C=true/\(∃ a,findIn K (.ref C) x=some a/\noGet K a=true)/\plainOver K C=true/\takerIn K C x=some none /\
  findIn K (.ref C) "__setattr__" =some (some (.builtin "object.__setattr__"))
theorem sC {K:Frag}{C:Addr}{x:Str}{l:List (Str×Unit)}(h:l.all (Nf K C)=true) (e:(lk x l).isSome=true):A6 K C x:=by
 obtain ⟨u,e⟩:=ax.mp e
 have q1:=ay.mp (List.all_eq_true.mp h _ (oC e))
 have q2:=ay.mp q1.2
 have q3:=ay.mp q2.2
 have q4:=ay.mp q3.2
 have q5:=ay.mp q4.2
 refine ⟨q1.1,q2.1,?_,q4.1,beq_iff_eq.mp q5.1,beq_iff_eq.mp q5.2⟩
 have q:=q3.1
 dsimp only at q
 cases hf:findIn K (.ref C) x with
 | none=>rw [hf] at q;cases q
 | some a=>rw [hf] at q;exact ⟨a,rfl,q⟩
theorem Dk (P:Params) (C:Addr) (x:Str) (h:iX C x=true):A6 (KK P) C x:=by
 have q:=ay.mp (MS P)
 have q2:=ay.mp q.2
 unfold iX at h
 by_cases h1:C=277
 ·rw [if_pos h1] at h;subst h1;exact sC q.1 h
 rw [if_neg h1] at h
 by_cases h2:C=375
 ·rw [if_pos h2] at h;subst h2;exact sC q2.1 h
 rw [if_neg h2] at h
 by_cases h3:C=448
 ·rw [if_pos h3] at h;subst h3;exact sC q2.2 h
 rw [if_neg h3] at h
 cases h
end Mine
end
section
open PySem PySem.W PyProof.Rows
set_option maxRecDepth 100000
namespace Mine
noncomputable def NR:List Addr:=[28,35,42,49,54,61,68,75,80,85,92,99,106,113,120,127,141,295,148,155,162,176,183,190,197,204,218,225,232,239,246,253,260,330,353,358,365,372,400,405,412,419,424,431,438,445,457,462,467,474,479,484,491,498,503,508,513,518,523,528,533]
theorem xf:(List.range 534).all (fun f=>(fn f).isNone||NR.contains f)=true:=by kernel_rfl
theorem BW (f:Nat):fn (f+534)=none:=by kernel_rfl
theorem BV {f:Addr}{r:List Str×List Stmt}(h:fn f=some r):f∈NR:=by
 by_cases q:f<534
 ·have:=List.all_eq_true.mp xf f (List.mem_range.mpr q)
  rw [h] at this
  exact List.contains_iff_mem.mp this
 ·rw [show f=(f - 534)+534 from (Nat.sub_add_cancel (Nat.le_of_not_lt q)).symm,BW] at h
  cases h
noncomputable def rA (a : Arguments) : Bool := a.posonlyargs.isEmpty && a.vararg.isNone && a.kwonlyargs.isEmpty && a.kw_defaults.isEmpty && a.kwarg.isNone && a.defaults.isEmpty
theorem yQ {a : Arguments} (h : rA a = true) : a = ⟨[], a.args, none, [], [], none, []⟩ := by
  obtain ⟨p, ar, v, ko, kd, kw, df⟩ := a
  simp only [rA, Bool.and_eq_true, List.isEmpty_iff, Option.isNone_iff_eq_none] at h
  obtain ⟨⟨⟨⟨⟨rfl, rfl⟩, rfl⟩, rfl⟩, rfl⟩, rfl⟩ := h
  rfl
noncomputable def lA : Stmt -> Option (Scope × List Str × List Stmt)
  | .FunctionDef _ a b _ _ _ sc _ _ _ => if rA a = true then some (sc, a.args.map (·.arg), b) else none
  | _ => none
theorem zB {K : Frag} {f cda : Addr} {s : Stmt} {q : Str} {mod ct : Value} {sc : Scope} {ps : List Str} {b : List Stmt} (h1 : K.lookup f = some (fo s q mod (.ref cda) [] ct)) (h2 : codeIn K (.ref cda) q = true) (h3 : lA s = some (sc, ps, b)) : Ad K f sc ps b := by
  induction s using Stmt.casesOn with
  | FunctionDef n a bd d r tp sc' ts bi pos => exact bR h3 fun hp h3 => sT h3 ⟨_, _, _, _, _, h1, rfl, rfl, rfl, h2, yQ hp, rfl, rfl, rfl, rfl⟩
  | _ => exact aw h3
noncomputable def br (K:Frag) (f:Addr):Prop:=∀ ps b,fn f=some (ps,b)->keepIn K (.ref f)=true/\∃ sc,Ad K f sc ps b/\uj G0 sc ps b=true
theorem uH {K:Frag}{f cda:Addr}{s:Stmt}{q:Str}{mod ct:Value}{sc:Scope}{ps:List Str}{b:List Stmt}(h1:K.lookup f=some (fo s q mod (.ref cda) [] ct)) (h2:codeIn K (.ref cda) q=true) (h3:lA s=some (sc,ps,b)) (h4:fn f=some (ps,b)) (h5:keepIn K (.ref f)=true) (h6:uj G0 sc ps b=true):br K f:=fun ps' b' e=>by
 rw [h4] at e
 cases e
 exact ⟨h5,sc,zB h1 h2 h3,h6⟩
noncomputable def DA:Stmt->Scope
 | .FunctionDef _ _ _ _ _ _ sc _ _ _=>sc
 | _=>default
noncomputable def Nr:Stmt->List Str
 | .FunctionDef _ a _ _ _ _ _ _ _ _=>a.args.map (·.arg)
 | _=>[]
noncomputable def N2:Stmt->List Stmt
 | .FunctionDef _ _ b _ _ _ _ _ _ _=>b
 | _=>[]
theorem aD {K:Frag}{f:Addr}(s:Stmt) (q:Str) (mod:Value) (cda:Addr) (ct:Value) (h1:K.lookup f=some (fo s q mod (.ref cda) [] ct):=by kernel_rfl) (h2:codeIn K (.ref cda) q=true:=by kernel_rfl) (h3:lA s=some (DA s,Nr s,N2 s):=by kernel_rfl) (h4:fn f=some (Nr s,N2 s):=by kernel_rfl) (h5:keepIn K (.ref f)=true:=by kernel_rfl) (h6:uj G0 (DA s) (Nr s) (N2 s)=true:=by kernel_rfl):br K f:=uH h1 h2 h3 h4 h5 h6
section
variable (P:Params)
theorem ME:br (KK P) 28:=aD (tS 2) (T "put_behind") (sv "fdsolve.domains" 194) 27 .none
theorem MD:br (KK P) 35:=aD (tS 3) (T "from_values") (sv "fdsolve.domains" 194) 34 .none
theorem MC:br (KK P) 42:=aD (tS 4) (T "least") (sv "fdsolve.domains" 194) 41 .none
theorem MB:br (KK P) 49:=aD (tS 5) (T "greatest") (sv "fdsolve.domains" 194) 48 .none
theorem MA:br (KK P) 54:=aD (tS 6) (T "size") (sv "fdsolve.domains" 194) 53 .none
theorem Mz:br (KK P) 61:=aD (tS 7) (T "next_from") (sv "fdsolve.domains" 194) 60 .none
theorem My:br (KK P) 68:=aD (tS 8) (T "has") (sv "fdsolve.domains" 194) 67 .none
theorem Mx:br (KK P) 75:=aD (tS 10) (T "values") (sv "fdsolve.domains" 194) 74 .none
theorem Mw:br (KK P) 80:=aD (tS 11) (T "up_to") (sv "fdsolve.domains" 194) 79 .none
theorem Mv:br (KK P) 85:=aD (tS 12) (T "from_on") (sv "fdsolve.domains" 194) 84 .none
theorem Mt:br (KK P) 92:=aD (tS 13) (T "without") (sv "fdsolve.domains" 194) 91 .none
theorem Ms:br (KK P) 99:=aD (tS 14) (T "meet") (sv "fdsolve.domains" 194) 98 .none
theorem CT:br (KK P) 106:=aD (tS 15) (T "join") (sv "fdsolve.domains" 194) 105 .none
theorem CS:br (KK P) 113:=aD (tS 16) (T "negation") (sv "fdsolve.domains" 194) 112 .none
theorem CR:br (KK P) 120:=aD (tS 17) (T "struck") (sv "fdsolve.domains" 194) 119 .none
theorem CQ:br (KK P) 127:=aD (tS 18) (T "said_of") (sv "fdsolve.domains" 194) 126 .none
theorem CP:br (KK P) 141:=aD (tM 20 0) (T "Store.__init__") (sv "fdsolve.store" 336) 140 .none
theorem Cz:br (KK P) 295:=aD (tM 21 0) (T "Propagator.__init__") (sv "fdsolve.store" 336) 294 .none
theorem CO:br (KK P) 148:=aD (tM 20 1) (T "Store.new_var") (sv "fdsolve.store" 336) 147 .none
theorem CN:br (KK P) 155:=aD (tM 20 2) (T "Store.size") (sv "fdsolve.store" 336) 154 .none
theorem CM:br (KK P) 162:=aD (tM 20 3) (T "Store.dom") (sv "fdsolve.store" 336) 161 .none
theorem CL:br (KK P) 176:=aD (tM 20 5) (T "Store.low") (sv "fdsolve.store" 336) 175 .none
theorem CK:br (KK P) 183:=aD (tM 20 6) (T "Store.high") (sv "fdsolve.store" 336) 182 .none
theorem CJ:br (KK P) 190:=aD (tM 20 7) (T "Store.has") (sv "fdsolve.store" 336) 189 .none
theorem CI:br (KK P) 197:=aD (tM 20 8) (T "Store.is_fixed") (sv "fdsolve.store" 336) 196 .none
theorem CH:br (KK P) 204:=aD (tM 20 9) (T "Store.value") (sv "fdsolve.store" 336) 203 .none
theorem CG:br (KK P) 218:=aD (tM 20 11) (T "Store.holds") (sv "fdsolve.store" 336) 217 .none
theorem CF:br (KK P) 225:=aD (tM 20 12) (T "Store.enter") (sv "fdsolve.store" 336) 224 .none
theorem CE:br (KK P) 232:=aD (tM 20 13) (T "Store.strike") (sv "fdsolve.store" 336) 231 .none
theorem CD:br (KK P) 239:=aD (tM 20 14) (T "Store.decide") (sv "fdsolve.store" 336) 238 .none
theorem CC:br (KK P) 246:=aD (tM 20 15) (T "Store.fail") (sv "fdsolve.store" 336) 245 .none
theorem CB:br (KK P) 253:=aD (tM 20 16) (T "Store.push") (sv "fdsolve.store" 336) 252 .none
theorem CA:br (KK P) 260:=aD (tM 20 17) (T "Store.pop") (sv "fdsolve.store" 336) 259 .none
theorem Cy:br (KK P) 330:=aD (tS 23) (T "standing") (sv "fdsolve.counts" 586) 329 .none
theorem Cx:br (KK P) 353:=aD (tM 24 1) (T "Count.propagate") (sv "fdsolve.counts" 586) 352 .none
theorem Cw:br (KK P) 358:=aD (tM 24 2) (T "Count.strike_once") (sv "fdsolve.counts" 586) 357 .none
theorem Cv:br (KK P) 365:=aD (tM 24 3) (T "Count.check") (sv "fdsolve.counts" 586) 364 .none
theorem Cu:br (KK P) 372:=aD (tM 24 4) (T "Count.told") (sv "fdsolve.counts" 586) 371 .none
theorem Ct:br (KK P) 400:=aD (tM 25 1) (T "NumberOfValues.propagate") (sv "fdsolve.counts" 586) 399 .none
theorem Cr:br (KK P) 405:=aD (tM 25 2) (T "NumberOfValues.bound_below") (sv "fdsolve.counts" 586) 404 .none
theorem Cq:br (KK P) 412:=aD (tM 25 3) (T "NumberOfValues.fixed_ones") (sv "fdsolve.counts" 586) 411 .none
theorem Cp:br (KK P) 419:=aD (tM 25 4) (T "NumberOfValues.bound_above") (sv "fdsolve.counts" 586) 418 .none
theorem Co:br (KK P) 424:=aD (tM 25 5) (T "NumberOfValues.bar_values") (sv "fdsolve.counts" 586) 423 .none
theorem Cn:br (KK P) 431:=aD (tM 25 6) (T "NumberOfValues.bar_all") (sv "fdsolve.counts" 586) 430 .none
theorem Cm:br (KK P) 438:=aD (tM 25 7) (T "NumberOfValues.check") (sv "fdsolve.counts" 586) 437 .none
theorem Cl:br (KK P) 445:=aD (tM 25 8) (T "NumberOfValues.told") (sv "fdsolve.counts" 586) 444 .none
theorem Ck:br (KK P) 457:=aD (tS 27) (T "_law_next") (sv "law_no0324_01" 769) 456 .none
theorem Cj:br (KK P) 462:=aD (tS 28) (T "_law_picked") (sv "law_no0324_01" 769) 461 .none
theorem Ci:br (KK P) 467:=aD (tS 29) (T "_law_tuples") (sv "law_no0324_01" 769) 466 .none
theorem Ch:br (KK P) 474:=aD (tS 30) (T "_law_is_met") (sv "law_no0324_01" 769) 473 .none
theorem Cg:br (KK P) 479:=aD (tS 31) (T "_law_means") (sv "law_no0324_01" 769) 478 .none
theorem Cf:br (KK P) 484:=aD (tS 32) (T "_law_boxes") (sv "law_no0324_01" 769) 483 .none
theorem Ce:br (KK P) 491:=aD (tS 33) (T "_law_within") (sv "law_no0324_01" 769) 490 .none
theorem Cd:br (KK P) 498:=aD (tS 34) (T "_law_domain_ahead") (sv "law_no0324_01" 769) 497 .none
theorem Cc:br (KK P) 503:=aD (tS 35) (T "_law_can_be") (sv "law_no0324_01" 769) 502 .none
theorem Cb:br (KK P) 508:=aD (tS 36) (T "_law_is_forced") (sv "law_no0324_01" 769) 507 .none
theorem Ca:br (KK P) 513:=aD (tS 37) (T "_law_clash_right") (sv "law_no0324_01" 769) 512 .none
theorem B9:br (KK P) 518:=aD (tS 38) (T "_law_supported") (sv "law_no0324_01" 769) 517 .none
theorem B8:br (KK P) 523:=aD (tS 39) (T "_law_asked") (sv "law_no0324_01" 769) 522 .none
theorem B6:br (KK P) 528:=aD (tS 40) (T "_law_form_right") (sv "law_no0324_01" 769) 527 .none
theorem B0:br (KK P) 533:=aD (tS 41) (T "law") (sv "law_no0324_01" 769) 532 .none
theorem BY:∀ f∈NR,br (KK P) f:=aj.mpr ⟨ME P,aj.mpr ⟨MD P,aj.mpr ⟨MC P,aj.mpr ⟨MB P,aj.mpr ⟨MA P,aj.mpr ⟨Mz P,aj.mpr ⟨My P,aj.mpr ⟨Mx P,aj.mpr ⟨Mw P,aj.mpr ⟨Mv P,aj.mpr ⟨Mt P,aj.mpr ⟨Ms P,aj.mpr ⟨CT P,aj.mpr ⟨CS P,aj.mpr ⟨CR P,aj.mpr ⟨CQ P,aj.mpr ⟨CP P,aj.mpr ⟨Cz P,aj.mpr ⟨CO P,aj.mpr ⟨CN P,aj.mpr ⟨CM P,aj.mpr ⟨CL P,aj.mpr ⟨CK P,aj.mpr ⟨CJ P,aj.mpr ⟨CI P,aj.mpr ⟨CH P,aj.mpr ⟨CG P,aj.mpr ⟨CF P,aj.mpr ⟨CE P,aj.mpr ⟨CD P,aj.mpr ⟨CC P,aj.mpr ⟨CB P,aj.mpr ⟨CA P,aj.mpr ⟨Cy P,aj.mpr ⟨Cx P,aj.mpr ⟨Cw P,aj.mpr ⟨Cv P,aj.mpr ⟨Cu P,aj.mpr ⟨Ct P,aj.mpr ⟨Cr P,aj.mpr ⟨Cq P,aj.mpr ⟨Cp P,aj.mpr ⟨Co P,aj.mpr ⟨Cn P,aj.mpr ⟨Cm P,aj.mpr ⟨Cl P,aj.mpr ⟨Ck P,aj.mpr ⟨Cj P,aj.mpr ⟨Ci P,aj.mpr ⟨Ch P,aj.mpr ⟨Cg P,aj.mpr ⟨Cf P,aj.mpr ⟨Ce P,aj.mpr ⟨Cd P,aj.mpr ⟨Cc P,aj.mpr ⟨Cb P,aj.mpr ⟨Ca P,aj.mpr ⟨B9 P,aj.mpr ⟨B8 P,aj.mpr ⟨B6 P,aj.mpr ⟨B0 P,List.forall_mem_nil _⟩⟩⟩⟩⟩⟩⟩⟩⟩⟩⟩⟩⟩⟩⟩⟩⟩⟩⟩⟩⟩⟩⟩⟩⟩⟩⟩⟩⟩⟩⟩⟩⟩⟩⟩⟩⟩⟩⟩⟩⟩⟩⟩⟩⟩⟩⟩⟩⟩⟩⟩⟩⟩⟩⟩⟩⟩⟩⟩⟩⟩
theorem NM:(KK P).lookup 346=some (fo (tM 24 0) (T "Count.__init__") (sv "fdsolve.counts" 586) (.ref 345) [(T "__class__",334)] (.ref 339)):=by kernel_rfl
theorem NN:(KK P).lookup 345=some (fl (.type "code") [sv "__init__" 613,sv "Count.__init__" 614,sv "/claim/cut.py" 615,.int 196 0,.int 4 0,.int 0 0,.int 0 0,.int 3 0,.ref 340,.bool true,.int 181 0,.ref 341,.none,.ref 342,.ref 343,.ref 344,.int 621 0,.int 196 0,sv "/claim/cut.py" 622]):=by kernel_rfl
theorem NO:(KK P).lookup 334=some ⟨.type "cell",none,.cell (some (.ref 375)),#[]⟩:=by kernel_rfl
theorem NJ:(KK P).lookup 393=some (fo (tM 25 0) (T "NumberOfValues.__init__") (sv "fdsolve.counts" 586) (.ref 392) [(T "__class__",381)] (.ref 386)):=by kernel_rfl
theorem NK:(KK P).lookup 392=some (fl (.type "code") [sv "__init__" 674,sv "NumberOfValues.__init__" 675,sv "/claim/cut.py" 676,.int 237 0,.int 3 0,.int 0 0,.int 0 0,.int 3 0,.ref 387,.bool true,.int 181 0,.ref 388,.none,.ref 389,.ref 390,.ref 391,.int 681 0,.int 237 0,sv "/claim/cut.py" 682]):=by kernel_rfl
theorem NL:(KK P).lookup 381=some ⟨.type "cell",none,.cell (some (.ref 448)),#[]⟩:=by kernel_rfl
noncomputable def zO (C:Addr):ClassData:=(clsIn (KK P) C).getD ⟨T "",[],[],0,T "",true,[],[],false,none,false⟩
theorem rL:kb pw (KK P) G0 375 346 (T "values") [T "value",T "n"]:=by
 refine ⟨by kernel_rfl,by kernel_rfl,by kernel_rfl,by decide +kernel,by decide +kernel,by decide +kernel,?_⟩
 exact ⟨⟨_,_,_,_,_,334,345,_,_,_,_,T "/claim/cut.py",615,_,_,_,zO P 375,zO P 375,_,_,_,_,_,_,_,_,_,_,_,_,_,_,_,_,_,_,_,_,_⟩,⟨NM P,by kernel_rfl,rfl,rfl,rfl,rfl,rfl,rfl,rfl,NN P,rfl,by kernel_rfl,NO P,by kernel_rfl,by kernel_rfl,by kernel_rfl,by kernel_rfl,by kernel_rfl,by kernel_rfl,(show ∀ x∈(DA (tM 24 0)).names,x.2≠.cell by decide +kernel),(show ∀ y∈T "self" ::T "taken" ::[T "value",T "n"],(DA (tM 24 0)).names.lookup y=some .local by decide +kernel),by kernel_rfl,by kernel_rfl,by kernel_rfl,rfl,.cons _ _ _ _ (.cons _ _ _ _ .nil),by kernel_rfl⟩⟩
theorem zr:kb pw (KK P) G0 448 393 (T "weak") [T "n"]:=by
 refine ⟨by kernel_rfl,by kernel_rfl,by kernel_rfl,by decide +kernel,by decide +kernel,by decide +kernel,?_⟩
 exact ⟨⟨_,_,_,_,_,381,392,_,_,_,_,T "/claim/cut.py",676,_,_,_,zO P 448,zO P 448,_,_,_,_,_,_,_,_,_,_,_,_,_,_,_,_,_,_,_,_,_⟩,⟨NJ P,by kernel_rfl,rfl,rfl,rfl,rfl,rfl,rfl,rfl,NK P,rfl,by kernel_rfl,NL P,by kernel_rfl,by kernel_rfl,by kernel_rfl,by kernel_rfl,by kernel_rfl,by kernel_rfl,(show ∀ x∈(DA (tM 25 0)).names,x.2≠.cell by decide +kernel),(show ∀ y∈T "self" ::T "taken" ::[T "n"],(DA (tM 25 0)).names.lookup y=some .local by decide +kernel),by kernel_rfl,by kernel_rfl,by kernel_rfl,rfl,.cons _ _ _ _ .nil,by kernel_rfl⟩⟩
theorem yo:ya pw (KK P) where
 fns f ps b h:=BY P f (BV h) ps b h
 store:=⟨by kernel_rfl,by kernel_rfl,by kernel_rfl,by kernel_rfl⟩
 count:=⟨by kernel_rfl,rL P⟩
 nv:=⟨by kernel_rfl,zr P⟩
end
end Mine
end
section
open PySem PySem.W PyProof.Rows PySem.Spec
set_option maxRecDepth 100000
namespace Mine
theorem qk {R:WRecords}:∀ {xs:List WData},WShape.hasItems R xs .int=true->∃ ns:List Int,xs=ns.map .int
 | [],_=>⟨[],rfl⟩
 | d::r,h=>by
  have h:(WShape.has R d .int&&WShape.hasItems R r .int)=true:=by simpa [WShape.hasItems] using h
  have h:=ay.mp h
  obtain ⟨i,rfl⟩:=hasW_int h.1
  obtain ⟨ns,rfl⟩:=qk h.2
  exact ⟨i::ns,rfl⟩
theorem uD {P:Params}{h:Heap}{X:Addr->Prop}{μ:Mu}{ns:List Int}{vs:List Value}(q:WellAll P h vs (ns.map .int)):aG X μ h (ns.map V.int) vs:=by
 induction ns generalizing vs with
 | nil=>cases q;exact .nil
 | cons n ns ih=>cases q with
  | cons a r=>cases a with
   | int _ t=>exact .cons (.int n t) (ih r)
theorem BJ {ns:List Int}(h:rl.row.pre.holds rl.row.records { args:=[.list (ns.map .int)] }=true):ns.length<=63:=by
 have e:WTm.value rl.row.records (.and (.not (.lt (.lit (.int 63)) (.len (.arg 0)))) (.lit (.bool true))) { args:=[.list (ns.map .int)] }=some (.bool (!decide ((63:Int)<((ns.map WData.int).length:Nat))&&true)) :=
  w_and (w_not (w_lt w_lit (by simp [WTm.value]))) w_lit
 have e:rl.row.pre.value rl.row.records { args:=[.list (ns.map .int)] }=_:=e
 unfold WTm.holds at h
 rw [e] at h
 rw [Bool.and_true,ah] at h
 by_cases q:(63:Int)<(ns.length:Nat)
 ·rw [aA q] at h;cases h
 ·omega
theorem um (a b:List WData):rl.row.toRowW.claim.post a (.bool true) b=true:=by kernel_rfl
theorem pM:bY callerA 24:=⟨rfl,rfl,by decide,by decide⟩
theorem Df {a:Addr}{G:Prop}(h:dY (fun _=>False) [] a):G:=h.elim (fun l=>nomatch l) False.elim
theorem Mm {prog:Program}{w:World}{h:Heap}:aS prog w (fun _=>False) [] h h [] where
 len:=rfl
 cell:=fun k c e=>nomatch e
 inj:=fun j k a e=>nomatch e
 stays:=fun a o e=>e
 apart:=fun a q=>Df q
 here:=fun a q=>Df q
 off:=fun a _=>id
theorem DH {P:Params}{base:Heap}{mg mb:Str->Option Value}(X:(KK P).In base) (l:base.NoLimit) (g:base.Ns mainGlobals mg) (b:base.Ns builtinsNs mb) (hb:∀ x:Str,x≠ "__name__" ->mb x=bootBuiltins x) (n:Nat):Wd (KK P) base (bD n) where
 KX:=X
 nolimit:=l
 glob:=zv X g b hb
 meth:=y1 P
 att:=Dk P
theorem D7 {P:Params}{base:Heap}{mg mb:Str->Option Value}(X:(KK P).In base) (g:base.Ns mainGlobals mg) (b:base.Ns builtinsNs mb) (hb:∀ x:Str,x≠ "__name__" ->mb x=bootBuiltins x):Mk pw (KK P) base G0 where
 sup:=⟨mg,mb,g,b,(th X (to P) g "super").trans (by kernel_rfl),(hb "super" (by decide +kernel)).trans (by kernel_rfl),(th X (to P) g (T "tuple")).trans (by kernel_rfl),(hb (T "tuple") (by decide +kernel)).trans (by kernel_rfl)⟩
 opaq:=by kernel_rfl
 fn295:=⟨by kernel_rfl,by kernel_rfl⟩
 top:=by kernel_rfl
theorem wP {w:World}{s:Shared}{mg mb:Str->Option Value}{v:Value}{ns:List Int}(X:(KK w.params).In s.heap) (l:s.heap.NoLimit) (g:s.heap.Ns mainGlobals mg) (b:s.heap.Ns builtinsNs mb) (hb:∀ x:Str,x≠ "__name__" ->mb x=bootBuiltins x) (hn:ns.length<=63) (hw:WellAll w.params s.heap [v] [.list (ns.map .int)]) :
  codeAny (model pw w) callerA (.call (.ref 533) ⟨[v],[]⟩) (fun r s'=>∃ μ',r=.ok (.ret (.bool true))/\Stp No [] μ' s s') s:=by
 obtain ⟨Z',e⟩:=yR ns hn
 have ph:=wi (prog:=pw) (w:=w) (K:=KK w.params) (base:=s.heap) (DH X l g b hb) (D7 X g b hb) (yo w.params) (by decide +kernel) (by decide +kernel) 12 533 [.lst (ns.map .int)] [] (.bool true) Z' e
 have rv:aG (fun _=>False) [] s.heap [V.lst (ns.map V.int)] [v]:=by
  cases hw with
  | cons h _ =>
   cases h with
   | list ho hi=>exact .cons (.lst (fun q=>Df q) ho (uD hi)) .nil
 refine codeAny_mono (ph.2 callerA pM (fun _=>False) [] s [v] Mm rv) fun r s' hr=>?_
 obtain ⟨u,μ',rfl,p,_,r'⟩:=hr
 cases r'
 exact ⟨μ',rfl,p⟩
end Mine
end
section
open PySem PySem.W PyProof.Rows PySem.Spec
set_option maxRecDepth 100000
namespace Mine
theorem Bn (P:Params):nsFind (oL P) mV.name=some (.ref 533):=by kernel_rfl
theorem yU {h h':Heap}(k:∀ a o,h.get? a=some o->h'.get? a=some o):OldK h h':=.of_keep k
theorem zu {s s':Shared}{μ':Mu}{args:List WData}{cl:Str->Option Addr}{mean:ExcName->Option Value}(p:Stp No [] μ' s s') (hg:s.gens=#[]):GoodWG rl.row.toRowW.claim cl mean args s (.ok (.ret (.bool true))) s':=by
 obtain ⟨⟨h',tk,e⟩,k,_,_⟩:=p
 subst e
 exact ⟨.inl ⟨.bool true,.bool true,[],rfl,fun _=>rfl,.bool true,um _ _,fun _=>⟨.nil,fun a ha=>nomatch ha⟩⟩,yU fun a o q=>k a o (fun l=>nomatch l) (fun q=>q) q,rfl,.of_eq hg⟩
theorem call_:WalkO qw jS (fun _ _=>True) (fun w h=>(KK w.params).In h) rl.row.toRowW mV [] fun f vs=>PySem.call f vs:=by
 intro w s0 sa mg mb G Y fa o pm cd doc dV kV ho hd hcd hD hmg hg args vals as hpre hlay hrd hwl hlo
 have T:=G.T
 rw [th Y (to w.params) T.g,Bn] at hmg
 cases hmg
 obtain ⟨h1,h2⟩:=pre_splitW hpre
 obtain ⟨d,r,rfl,h3,h4⟩:=hasAllW_cons (show WShape.hasAll rl.row.records args [.list .int]=true from h1)
 obtain rfl:=hasAllW_nil h4
 obtain ⟨xs,rfl,h5⟩:=hasW_list h3
 obtain ⟨ns,rfl⟩:=qk h5
 obtain ⟨v,vs,rfl,h6,h7⟩:=wellAll_cons_inv hwl
 cases h7
 exact wpAny_call (codeAny_mono (wP Y T.nolimit T.g T.b T.builtins (BJ h2) hwl) fun r s' hr=>by
  obtain ⟨μ',rfl,p⟩:=hr
  exact zu p hg)
end Mine
theorem PySem.Challenge.cw_no0324_01_holds : PySem.Challenge.rw_no0324_01.Holds :=
 Mine.holds Mine.call_
end
