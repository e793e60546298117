import Derived.Test.YtfmgnnfghdjpfaaEvA
import Derived.CheckFast
namespace Go.Ev
noncomputable section

/-! ## From the model's code to this one's -/
/-- a value of one cell -/
def flatV (v : Value) : Bool :=
  match v with
  | .agg _ => false
  | .tuple _ => false
  | _ => true

mutual
def ofValue : Value → Option AV
  | .bool b => some (.bool b)
  | .int k n => some (.int k n)
  | .string s => some (.str (s.data.toList.map UInt8.toNat))
  | .pointer none => some .nilp
  | .slice none 0 0 => some .nilsl
  | .map none => some .nilmap
  | .nilFunc => some .nilfn
  | .nilIface => some .niliface
  | .func (.func f) ⟨a⟩ ⟨b⟩ => match ofValues a, ofValues b with
    | some a, some b => some (.fn f a b)
    | _, _ => none
  | .iface t v => (ofValue v).map (.iface t)
  | .agg ⟨cs⟩ => bif cs.all flatV then (ofValues cs).map .agg else none
  | .tuple ⟨cs⟩ => (ofValues cs).map .tup
  | _ => none
def ofValues : List Value → Option (List AV)
  | [] => some []
  | v :: vs => match ofValue v, ofValues vs with
    | some a, some as => some (a :: as)
    | _, _ => none
end

variable (P : Program)

def cOpd : Operand → Option Opd
  | .tmp t => some (.t t)
  | .const v => (ofValue v).map .c
  | .global g => bif Nat.blt g P.globals.size then some (.c (.ptr g 0)) else none
  | .func f => some (.c (.fn f [] []))

def cOpds : List Operand → Option (List Opd)
  | [] => some []
  | x :: xs => match cOpd P x, cOpds xs with
    | some a, some as => some (a :: as)
    | _, _ => none

def cOpt : Option Operand → Option (Option Opd)
  | none => some none
  | some x => (cOpd P x).map some

def aggT (t : TypeId) : Option (Bool × Nat) :=
  match P.underlying t, P.info? t with
  | some (.struct _), some i => some (true, i.size)
  | some (.array _ _), some i => some (true, i.size)
  | some _, some i => some (false, i.size)
  | _, _ => none

def zeroT (t : TypeId) : Option AV :=
  match P.info? t with
  | some i => match i.zero with
    | some v => ofValue v
    | none => none
  | none => none

def eqP (t : TypeId) : EqP :=
  match P.underlying t with
  | some .bool => .bool
  | some (.int _) => .int
  | some .string => .str
  | some (.pointer _) => .ptr
  | some (.slice _) => .slice
  | some (.map _ _) => .map
  | some (.func ..) => .func
  | some (.interface _) => .iface
  | _ => .no

def eqFields : List Field → List (Nat × EqP)
  | [] => []
  | f :: fs => bif f.name == "_" then eqFields fs else (f.offset, eqP P f.type) :: eqFields fs

def eqT (t : TypeId) : EqT :=
  match P.underlying t with
  | some (.struct fs) => bif P.stoodInHeld t || P.eqGuardType P.depth t then .p .no else .struct (eqFields P fs.toList)
  | some (.array n e) => bif P.eqGuardType P.depth t || n > 64 || P.cellsOf e != 1 then .p .no else .struct ((List.range n).map fun i => (i, eqP P e))
  | _ => .p (eqP P t)

def cParts (place : Nat → Option (Nat × Nat)) : List (Nat × Operand) → Option (List (Nat × Nat × Opd))
  | [] => some []
  | (i, x) :: ps => match place i, cOpd P x, cParts place ps with
    | some (off, n), some x, some ps => some ((off, n, x) :: ps)
    | _, _, _ => none

def placeOf (fs : Array Field) (i : Nat) : Option (Nat × Nat) :=
  match fs[i]? with
  | some f => match P.info? f.type with
    | some s => some (f.offset, s.size)
    | none => none
  | none => none

/-- every field's type is known -/
def fieldsKnown : List Field → Bool
  | [] => true
  | f :: fs => (P.info? f.type).isSome && fieldsKnown fs

def cParts2 : List (Nat × Operand) → Option (List (Nat × Opd))
  | [] => some []
  | (i, x) :: ps => match cOpd P x, cParts2 ps with
    | some x, some ps => some ((i, x) :: ps)
    | _, _ => none

def elemOfT (t : TypeId) : Option (TypeId × TypeInfo) :=
  match P.underlying t with
  | some (.slice e) => (P.info? e).map fun i => (e, i)
  | _ => none

def zeroCellsT (t : TypeId) : Option (List AV) := (zeroT P t).bind AV.cells

/-- the zero of an element, which has the element's size -/
def zeroElemT (e : TypeId) (i : TypeInfo) : Option (List AV) :=
  match zeroCellsT P e with
  | some z => bif Nat.beq z.length i.size then some z else none
  | none => none

/-- what may be appended -/
def srcT (u : TypeId) (i : TypeInfo) : Bool :=
  match P.underlying u with
  | some (.slice _) => true
  | some .string => Nat.beq i.size 1
  | _ => false

/-- the types that have a method of this name, with the function and how the receiver is made -/
def methodRow (name : String) (t : TypeId) (i : TypeInfo) : Option (Nat × Nat × Option (Bool × Nat)) :=
  match i.methods.find? (·.name == name) with
  | some m => bif !m.path.isEmpty then none else match m.func with
    | none => none
    | some (f, ptr) => match P.underlying t, ptr with
      | some (.pointer _), true => some (t, f, none)
      | some (.pointer e), false => (aggT P e).map fun a => (t, f, some a)
      | some (.interface _), _ => none
      | some _, false => some (t, f, none)
      | _, _ => none
  | none => none

def methodTable (name : String) : List TypeInfo → Nat → List (Nat × Nat × Option (Bool × Nat))
  | [], _ => []
  | i :: is, t => match methodRow P name t i with
    | some r => r :: methodTable name is (t + 1)
    | none => methodTable name is (t + 1)

def plainKey : EqP → Bool
  | .int | .str | .bool => true
  | _ => false

/-- the cells are the fields, one by one -/
def covers : Nat → List (Nat × EqP) → Bool
  | _, [] => true
  | i, (o, e) :: l => Nat.beq o i && (plainKey e && covers (i + 1) l)

/-- how keys of a map are compared -/
def keyT (t : TypeId) : Option EqT :=
  match P.underlying t with
  | some .string => some (.p .str)
  | some (.int _) => some (.p .int)
  | some (.struct fs) => match eqT P t with
    | .struct l => bif fs.all (fun f => plainKey (eqP P f.type)) && covers 0 l then some (.struct l) else none
    | _ => none
  | some (.array _ e) => match eqT P t with
    | .struct l => bif plainKey (eqP P e) && covers 0 l then some (.struct l) else none
    | _ => none
  | _ => none

def extName (_ : String) : Option ExtK := none

def extOf (f : Operand) : Option ExtK :=
  match f with
  | .func f => match P.funcs[f]? with
    | some fn => bif fn.body.isNone then extName fn.name else none
    | none => none
  | _ => none

def q (o : Option QOp) : Option AOp := o.map .q
def al (o : Option AlOp) : Option AOp := o.map .a
def xx (o : Option XOp) : Option AOp := o.map .x

def cOp (o : Op) : Option AOp :=
  match o with
  | .move x | .assign x => q do some (.mv (← cOpd P x))
  | .pick c a b => q do some (.pick (← cOpd P c) (← cOpd P a) (← cOpd P b))
  | .alloc t => al do some (.alloc t (← zeroCellsT P t))
  | .box t x => al do some (.box t (← cOpd P x))
  | .build t ps =>
    match P.underlying t with
    | some (.struct fs) => bif fieldsKnown P fs.toList then q do some (.build (← zeroCellsT P t) (← cParts P (placeOf P fs) ps.toList)) else none
    | some (.array _ e) => q do let s ← P.info? e; some (.build (← zeroCellsT P t) (← cParts P (fun i => some (i * s.size, s.size)) ps.toList))
    | _ => none
  | .buildSlice t len ps => al do
    let (e, i) ← elemOfT P t
    if len * i.size > 65536 then none
    some (.bslice e i.size len (← zeroElemT P e i) (← cParts2 P ps.toList))
  | .load t a => q do let (agg, n) ← aggT P t; some (.ld agg n (← cOpd P a))
  | .store t a v => xx do let (_, n) ← aggT P t; some (.st n (← cOpd P a) (← cOpd P v))
  | .nilCheck x => q do some (.nilchk (← cOpd P x))
  | .binOp op t x y _ => q do some (.bin op (eqT P t) (← cOpd P x) (← cOpd P y))
  | .unOp op _ x => q do some (.un op (← cOpd P x))
  | .convert src dst x =>
    match P.underlying src, P.underlying dst with
    | some (.int _), some (.int k) => q do some (.conv (.int k) (← cOpd P x))
    | some .string, some .string => q do some (.conv .same (← cOpd P x))
    | some (.int _), some .string => q do some (.conv .intToStr (← cOpd P x))
    | some (.slice e), some .string => match P.underlying e with
      | some (.int .u8) => q do some (.conv .bytesToStr (← cOpd P x))
      | _ => none
    | some .string, some (.slice e) => match P.underlying e with
      | some (.int .u8) => none
      | _ => none
    | _, _ => none
  | .makeInterface t x => match P.underlying t with
    | some (.interface _) => none
    | some _ => q do some (.mkIface t (← cOpd P x))
    | none => none
  | .makeFunc (.method name) a b => match a.toList, b.toList with
    | [x], [] => q do some (.mkMeth name (methodTable P name P.types.toList 0) (← cOpd P x))
    | _, _ => none
  | .makeFunc (.func f) a b => q do some (.mkFunc f (← cOpds P a.toList) (← cOpds P b.toList))
  | .makeMap _ none => al (some .mkMap)
  | .makeSlice t l c => al do let (e, i) ← elemOfT P t; some (.mkSlice e i.size i.bytes (← zeroElemT P e i) (← cOpd P l) (← cOpd P c))
  | .slice t x lo hi mx => bif mx.isSome && hi.isNone then none else
    match P.underlying t with
    | some .string => q do some (.slc .str (← cOpd P x) (← cOpt P lo) (← cOpt P hi) (← cOpt P mx))
    | some (.slice e) => q do let i ← P.info? e; some (.slc (.slice i.size) (← cOpd P x) (← cOpt P lo) (← cOpt P hi) (← cOpt P mx))
    | some (.array n e) => q do let i ← P.info? e; some (.slc (.arr n i.size) (← cOpd P x) (← cOpt P lo) (← cOpt P hi) (← cOpt P mx))
    | _ => none
  | .fieldAddr t x f => match P.underlying t with
    | some (.struct fs) => q do
      let f ← fs[f]?
      let i ← P.info? f.type
      if i.size = 0 then none
      some (.faddr f.offset (← cOpd P x))
    | _ => none
  | .field t x f => match P.underlying t with
    | some (.struct fs) => q do
      let f ← fs[f]?
      let (agg, n) ← aggT P f.type
      some (.fld agg f.offset n (← cOpd P x))
    | _ => none
  | .indexAddr t x ix => match P.underlying t with
    | some (.slice e) => q do let i ← P.info? e; some (.iaddr (.slice i.size) (← cOpd P x) (← cOpd P ix))
    | some (.array n e) => q do let i ← P.info? e; some (.iaddr (.arr n i.size) (← cOpd P x) (← cOpd P ix))
    | _ => none
  | .index t x ix => match P.underlying t with
    | some .string => q do some (.idxStr (← cOpd P x) (← cOpd P ix))
    | some (.array n e) => q do let (agg, s) ← aggT P e; some (.idxArr agg n s (← cOpd P x) (← cOpd P ix))
    | _ => none
  | .lookup t m k ok => match P.underlying t with
    | some (.map kt et) => q do some (.lookup (← keyT P kt) (← zeroT P et) ok (← cOpd P m) (← cOpd P k))
    | _ => none
  | .mapUpdate t m k v | .insert t m k v => match P.underlying t with
    | some (.map kt _) => xx do some (.mapUpd (← keyT P kt) (← cOpd P m) (← cOpd P k) (← cOpd P v))
    | _ => none
  | .typeAssert x _ t ok => match P.underlying t with
    | some (.interface _) => none
    | some _ => q do some (.tassert t (← zeroT P t) ok (← cOpd P x))
    | none => none
  | .extract x i => q do some (.extract (← cOpd P x) i)
  | .call { callee := .value f, args, .. } => match extOf P f with
    | some _ => none
    | none => xx do some (.call (← cOpd P f) (← cOpds P args.toList))
  | .call { callee := .invoke _ _, .. } => none
  | .call { callee := .builtin b, args, argTypes } =>
    match b, args.toList, argTypes.toList with
    | .len, [x], [t] => match P.underlying t with
      | some .string => q do some (.lenStr (← cOpd P x))
      | some (.slice _) => q do some (.lenSl (← cOpd P x))
      | some (.array n _) => q (some (.lenArr n))
      | some (.map _ _) => q do some (.lenMap (← cOpd P x))
      | _ => none
    | .cap, [x], [t] => match P.underlying t with
      | some (.slice _) => q do some (.capSl (← cOpd P x))
      | _ => none
    | .max, xs, _ => q do some (.minmax true (← cOpds P xs))
    | .min, xs, _ => q do some (.minmax false (← cOpds P xs))
    | .append, [s, x], [t, u] => match elemOfT P t with
      | some (e, i) => bif srcT P u i && (zeroElemT P e i).isSome then xx do some (.app e i.size i.bytes (← cOpd P s) (← cOpd P x)) else none
      | none => none
    | _, _, _ => none
  | _ => none

def cGuard (ops : Array Oper) : Option (Nat × Bool) → Option (Option (Nat × Bool))
  | none => some none
  | some (j, w) => match (ops[j]?).bind (·.dst) with
    | some d => some (some (d, w))
    | none => none

def dstOk (nt : Nat) : Option Tmp → Bool
  | some d => Nat.blt d nt
  | none => true

def cOper (nt : Nat) (ops : Array Oper) (o : Oper) (mask : Nat) : Option AO :=
  bif dstOk nt o.dst then
    match cGuard ops o.guard with
    | some g => match cOp P o.op with
      | some op => some ⟨o.dst, op, g, mask⟩
      | none => some ⟨o.dst, .x .bad, g, mask⟩
    | none => none
  else none

def cOpers (nt : Nat) (ops : Array Oper) : List Oper → List Nat → Option (List AO)
  | [], _ => some []
  | o :: os, ms => match cOper P nt ops o (ms.headD 0), cOpers nt ops os ms.tail with
    | some a, some as => some (a :: as)
    | _, _ => none

/-! ### what is asked of a region that draws its order -/
/-- the slots that are read -/
def Opd.rd (x : Opd) : List Nat :=
  match x with
  | .t i => [i]
  | .c _ => []
def rds : List Opd → List Nat
  | [] => []
  | x :: xs => x.rd ++ rds xs
def rdo (x : Option Opd) : List Nat :=
  match x with
  | some x => x.rd
  | none => []
def rdp : List (Nat × Nat × Opd) → List Nat
  | [] => []
  | (_, _, x) :: ps => x.rd ++ rdp ps
def rdp2 : List (Nat × Opd) → List Nat
  | [] => []
  | (_, x) :: ps => x.rd ++ rdp2 ps
def QOp.rd (o : QOp) : List Nat :=
  match o with
  | .mv x | .ld _ _ x | .nilchk x | .un _ x | .conv _ x | .mkIface _ x | .faddr _ x | .fld _ _ _ x | .tassert _ _ _ x | .extract x _ | .lenStr x | .lenSl x | .lenMap x | .capSl x | .mkMeth _ _ x => x.rd
  | .pick c a b => c.rd ++ (a.rd ++ b.rd)
  | .build _ ps => rdp ps
  | .bin _ _ x y | .iaddr _ x y | .idxArr _ _ _ x y | .idxStr x y | .lookup _ _ _ x y => x.rd ++ y.rd
  | .mkFunc _ a b => rds a ++ rds b
  | .slc _ x lo hi mx => x.rd ++ (rdo lo ++ (rdo hi ++ rdo mx))
  | .lenArr _ => []
  | .minmax _ xs => rds xs
def AlOp.rd (o : AlOp) : List Nat :=
  match o with
  | .alloc _ _ | .mkMap => []
  | .box _ x | .strBytes _ x => x.rd
  | .bslice _ _ _ _ ps => rdp2 ps
  | .mkSlice _ _ _ _ l c => l.rd ++ c.rd
def XOp.rd (o : XOp) : List Nat :=
  match o with
  | .st _ x v => x.rd ++ v.rd
  | .call f args | .inv _ f args => f.rd ++ rds args
  | .app _ _ _ s x | .copy _ s x | .mapDel _ s x => s.rd ++ x.rd
  | .mapUpd _ m k v => m.rd ++ (k.rd ++ v.rd)
  | .clr _ x => x.rd
  | .ext _ args => rds args
  | .bad => []
def AOp.rd (o : AOp) : List Nat :=
  match o with
  | .q o => o.rd
  | .a o => o.rd
  | .x o => o.rd
/-- the slots that an operation touches -/
def AO.touch (o : AO) : List Nat := o.dst.toList ++ ((o.grd.map (·.1)).toList ++ o.op.rd)
def inL (t : Nat) : List Nat → Bool
  | [] => false
  | u :: l => bif Nat.beq t u then true else inL t l
def meets (d : Option Nat) (b : List Nat) : Bool :=
  match d with
  | some d => inL d b
  | none => false
/-- an operation against those behind it -/
def drwOne (i : Nat) (d : Option Nat) (tch : List Nat) : List AO → Bool
  | [] => true
  | b :: l => (bif meets d b.touch || meets b.dst tch then Nat.testBit b.mask i else true) && drwOne i d tch l
def drwGo : Nat → List AO → Bool
  | _, [] => true
  | i, a :: l => drwOne i a.dst a.touch l && drwGo (i + 1) l
def drwOk (l : List AO) : Bool := drwGo 0 l
def edgesGo : Nat → List Oper → Bool
  | _, [] => true
  | i, o :: l => o.after.all (fun e => !Region.binds .any e || Nat.blt e.on i) && edgesGo (i + 1) l
def cDrawn (nt : Nat) (ops : Array Oper) : Option AC :=
  match cOpers P nt ops ops.toList (CheckFast.beforeL ops.toList 0 []) with
  | some aos => bif edgesGo 0 ops.toList && drwOk aos then some (.drw aos) else none
  | none => none

def cCode (nt : Nat) : Code → Option AC
  | .skip => some .skip
  | .seq a b => match cCode nt a, cCode nt b with
    | some a, some b => some (.seq a b)
    | _, _ => none
  | .cond c a b => match cOpd P c, cCode nt a, cCode nt b with
    | some c, some a, some b => some (.cond c a b)
    | _, _, _ => none
  | .block id c => (cCode nt c).map (.block id)
  | .loop c => (cCode nt c).map .loop
  | .exit id => some (.exit id)
  | .ret => some .ret
  | .region _ ops d => bif d then cDrawn P nt ops else (cOpers P nt ops ops.toList []).map .reg
  | .rangeFunc f ps as bd => bif ps.toList.all (fun p => Nat.blt p nt) then match cOpd P f, cCode nt as, cCode nt bd with
    | some f, some as, some bd => some (.rng f ps.toList as bd)
    | _, _, _ => none
    else none
  | _ => none

def cRes : List ResultVar → Option (List RV)
  | [] => some []
  | .tmp t :: rs => (cRes rs).map (.t t :: ·)
  | .cell a t :: rs => match aggT P t, cRes rs with
    | some (agg, n), some rs => some (.cell a agg n :: rs)
    | _, _ => none

def cFn (fn : Func) : Option AFn :=
  bif fn.name == "runtime.NumGoroutine" then none else
  match fn.body with
  | some c => match cCode P fn.ntmps c, cRes P fn.results.toList with
    | some c, some rs => some ⟨fn.ntmps, rs, c⟩
    | _, _ => none
  | none => none

end
end Go.Ev
