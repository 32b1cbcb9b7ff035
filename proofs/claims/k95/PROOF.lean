import PyProof.Rows.All
import Wide.All
import OpenK.AllK
import Wide.FinOn
import HandS.ForMost
import HandS.More
import HandS.Defaults
import HandS.HeadEnd
import HandS.Flow
import HandS.Style
import HandS.Deep
import HandS.TupAny
import HandS.NoneIn
import HandS.Codes
import HandS.Zip
import HandS.Gcd
import HandS.StrMore
import HandS.StrSplit
import HandS.IsInst
import HandS.Words
import HandS.WordsList
import KE.KeyNested
import HandS.TupMul
import HandS.Conv
import HandS.RaiseMore
import HandS.Sort
import HandS.SetFor
import HandS.TupSets
import PyProof.SetRoads
import PyProof.FactsLen
import HandS.Comp
import KE.GoesZip
import KE.GoesMore
import PyProof.EnumMake
import HandS.HeadHook2
import HandS.EndBits
import HandS.HeadHook3
import HandS.Text
import KE.KStateDown
import HandS.Head0
import HandS.Head1
import HandS.Head2
import HandS.Head3
import PySem.Challenge.RW_surelyheld_k95_any_string_as_a_command
set_option Elab.async false
/-! Sh0: a def's promise where no repr is under way (for repr's own rule), by the layer's rules. -/
set_option linter.all false
set_option autoImplicit false
set_option maxRecDepth 100000
namespace Sh
open PySem PySem.Spec PyProof.Rows L2

structure FnG (P : Program) (w : World) (K : PySem.W.Frag) (mg : Str → Option Value) (base : Heap) (C : CXT) (k : Nat) (f : Addr) (fd : FuncData) (ps : List Str) (sp : Sp) : Prop where
  len : ∀ vs H Q E, sp vs H Q E → vs.length = ps.length
  run : ∀ (A : Around) (outer : List Env) (s : Shared) (H : Hp) (args : Args) (us : List Value) (vs : List V) (Q : VK) (E : XK),
    Room k A → A.guards = some [] → Env0 P w K mg base A outer s H → BindsTo s fd args (ps.zip us) → Vals vs us → sp vs H Q E →
      codeAny (model P w) A (.call (.ref f) args) (CR C outer P w H s Q E) s

section
variable {X : Cx} {C : CXT} {k : Nat} {f : Addr} {fd : FuncData} {ps : List Str} {sp : Sp} {E : XK} {x : Str} {p pos : Pos} {e : Expr} {es : List Expr} {t : TA}
theorem runG {pins : List (Addr × Obj)} {σ : L2.St} {H : Hp} {s : Shared} {Q : VK} {us : List Value} {vs : List V} (F : FnG X.prog X.w X.K X.mg X.base C k f fd ps sp) (hr : Room k X.A) (hgd : X.A.guards = some [])
    (hb : Binds X.K fd ps []) (hx : Passes C X E) (I : Inv X pins σ H s) (r : Vals vs us) (h : sp vs H Q E) : wpAny (model X.prog X.w) X.A (call (.ref f) us) (EP X pins σ Q) X.xe s := by
  have hl : (us ++ []).length = ps.length := by
    rw [List.append_nil, ← r.length]
    exact F.len vs H Q E h
  have bt : BindsTo s fd ⟨us, []⟩ (ps.zip us) := by
    have b := hb s us I.kIn hl
    rw [List.append_nil] at b
    exact b
  refine wpAny_call (codeAny_mono (F.run X.A X.stack s H ⟨us, []⟩ us vs Q E hr hgd I.env0 bt r h) fun q s' hq => ?_)
  cases q with
  | error e => exact hx pins σ H s e s' I hq
  | ok fl =>
    cases fl with
    | ret u => exact I.after hq
    | _ => exact hq.elim
theorem runGk {pins : List (Addr × Obj)} {σ : L2.St} {H : Hp} {s : Shared} {Q : VK} {us ws : List Value} {vs zs : List V} {ks : List Str} {g : List Value → List Value → List Value} {gV : List V → List V → List V}
    (F : FnG X.prog X.w X.K X.mg X.base C k f fd ps sp) (hr : Room k X.A) (hgd : X.A.guards = some []) (hb : KBinds X.K fd ps ks g gV) (hx : Passes C X E) (I : Inv X pins σ H s) (r : Vals vs us) (rz : Vals zs ws)
    (h : sp (gV vs zs) H Q E) : wpAny (model X.prog X.w) X.A (call (.ref f) us (ks.zip ws)) (EP X pins σ Q) X.xe s := by
  have r2 := hb.rel r rz
  have hl : (g us ws).length = ps.length := r2.length.symm.trans (F.len _ H Q E h)
  refine wpAny_call (codeAny_mono (F.run X.A X.stack s H ⟨us, ks.zip ws⟩ (g us ws) (gV vs zs) Q E hr hgd I.env0 (hb.to s us ws I.kIn hl) r2 h) fun q s' hq => ?_)
  cases q with
  | error e => exact hx pins σ H s e s' I hq
  | ok fl =>
    cases fl with
    | ret u => exact I.after hq
    | _ => exact hq.elim
def tCl (sp : Sp) (E : XK) (t : TA) : TE := fun σ H Q => t σ H fun vs H1 => sp vs H1 Q E
theorem peG (F : FnG X.prog X.w X.K X.mg X.base C k f fd ps sp) (hr : Room k X.A) (hgd : X.A.guards = some []) (hgl : Gl X x) (hm : X.mg x = some (.ref f)) (hkp : PySem.W.keepIn X.K (.ref f) = true) (hb : Binds X.K fd ps []) (hx : Passes C X E)
    (ha : PA X (e :: es) t) (hdb : (x == ("__debug__" : Str)) = false) (hs : starEach (e :: es) X.env = (false, eval e X.env) :: starEach es X.env) (hpl : (backTo pos (starEach es X.env)).any (·.1) = false) :
    PE X (.Call (.Name x p) (e :: es) [] pos) (tCl sp E t) := ⟨fun pins s σ H Q I h =>
  wpAny_Call_Name_kw (ld_glob I hgl hm (PySem.W.callWith_K (h₀ := X.base) I.ok.mod.kin hkp
    (thn (ha.run pos pins s σ H _ I h) fun us s1 ⟨vs, H1, I1, r, q⟩ => ⟨I1.kIn, runG F hr hgd hb hx I1 r q⟩) hs hpl) hdb)⟩
theorem peG0 (F : FnG X.prog X.w X.K X.mg X.base C k f fd ps sp) (hr : Room k X.A) (hgd : X.A.guards = some []) (hgl : Gl X x) (hm : X.mg x = some (.ref f)) (hkp : PySem.W.keepIn X.K (.ref f) = true) (hb : Binds X.K fd ps []) (hx : Passes C X E)
    (hdb : (x == ("__debug__" : Str)) = false) : PE X (.Call (.Name x p) [] [] pos) (tCl sp E tNil) := ⟨fun pins s σ H Q I h =>
  wpAny_Call_Name_kw (ld_glob I hgl hm (PySem.W.callWith_K0 I.kIn hkp (runG (us := []) F hr hgd hb hx I .nil h)) hdb)⟩
end

/-- a def of the text, by its body -/
theorem fnG_of {C : CXT} {P : Program} {w : World} {K : PySem.W.Frag} {mg : Str → Option Value} {base : Heap} {k : Nat} {f : Addr} {name qual : Str} {params : Arguments} {body : List Stmt} {scope : Scope} {dvs : List V} {kws : List (Str × V)} {fd : FuncData}
    {N ps : List Str} {sp : Sp} (D : FunD K name qual params body scope dvs kws f fd) (S : FnScope N ps scope) (len : ∀ vs H Q E, sp vs H Q E → vs.length = ps.length)
    (hbody : ∀ (cdv : Value) (A : Around) (outer : List Env) (s : Shared) (H : Hp) (vs : List V) (Q : VK) (E : XK), Room k (A.deeper (envOfC qual scope s.heap.objs.size f cdv)) → A.guards = some [] → sp vs H Q E →
      ∃ t, PSs (cxOf C P w K mg base N qual scope f cdv A outer s H E) body t ∧ t { nx := fun _ H' => Q .non H', rt := Q } (start N vs) H) : FnG P w K mg base C (k + 1) f fd ps sp := by
  obtain ⟨oc, od, dV, kV, doc, pm, an, cdv, ct, osl, rfl, look, hcode, _, _⟩ := D.ex
  refine ⟨len, fun A outer s H args us vs Q E hr hgd env hbind r hsp => ?_⟩
  have hlen := len vs H Q E hsp
  have keep := fun b o (q : base.get? b = some o) => (env.bs b o q).1
  have KX : K.In s.heap := env.mod.kin.keeps keep
  refine codeAny_call_function hr.depth (KX f _ look) rfl S.co S.gen rfl (PySem.W.codeRec_of KX hcode) (hbind _ _ _ _ ?_)
  have par : ∀ y ∈ ps.zip us, scope.names.lookup y.1 = some .local ∨ (scope.names.lookup y.1 = some .cell ∧ ((cellsFrom (s.heap.objs.size + 1) scope.names []).lookup y.1).isSome = true) := by
    rintro ⟨n, v⟩ hy
    exact (S.par n (List.of_mem_zip hy).1).imp id fun q => ⟨q, PySem.W.cellsFrom_some _ _ _ (.inl q)⟩
  refine wpAny_newFunctionEnv_cells S.kind par fun en he s1 x => ?_
  subst he
  refine ⟨(env.mod.nolimit.keeps keep).keeps x.toInCall.keep, codeAny_func ?_⟩
  obtain ⟨t, ht, hq⟩ := hbody cdv A outer s H vs Q E (hr.deeper _) hgd hsp
  have I := inv_start (CX := C) (E := E) S hr.hd env hlen r x
  refine wpAny_mono (ht.run [] s1 (start N vs) H _ I hq) (fun fl s' hs => ?_) (fun _ _ z => z)
  match fl, hs with
  | .ret u, ⟨v, σ', H', J, rv, q⟩ => exact ⟨v, H', J.os, J.bare, J.base, J.hok, rv, q⟩
  | .next, ⟨σ', H', J, q⟩ => exact ⟨.non, H', J.os, J.bare, J.base, J.hok, rfl, q⟩
  | .brk, ⟨_, _, _, q⟩ => exact q.elim
  | .cont, ⟨_, _, _, q⟩ => exact q.elim
end Sh
/-! Sh1: a small language of data (E, L, I, Tg, ST, BL) into which defs of the text are turned, and what a term of it is worth (evE, evS ..). -/
set_option linter.all false
namespace Sh
open PySem

/-- a value: data that never change, a cell that does, a written dict, a type, the script -/
inductive Vl where
  | p (d : PyData)
  | ref (n : Nat)
  | dic (x : Str)
  | ty (n : String)
  | scr (xs : List Int)

/-- a cell: no more in use, a list that may change -/
inductive SO where
  | dead
  | lst (xs : List Vl)
abbrev Cells := List SO
abbrev Sl := List (Option Vl)

inductive O (α : Type) where
  | ok (a : α) (s : Cells)
  | bad
def O.bind {α β : Type} (m : O α) (f : α → Cells → O β) : O β := match m with
  | .ok a s => f a s
  | .bad => .bad
theorem O.bind_ok {α β : Type} {m : O α} {f : α → Cells → O β} {b : β} {s : Cells} (h : m.bind f = .ok b s) : ∃ a s1, m = .ok a s1 ∧ f a s1 = .ok b s := by
  cases m with
  | ok a s1 => exact ⟨a, s1, rfl, h⟩
  | bad => cases h
def lift {α : Type} (o : Option α) (s : Cells) : O α := match o with
  | some a => .ok a s
  | none => .bad
theorem lift_ok {α : Type} {o : Option α} {s s' : Cells} {a : α} (h : lift o s = .ok a s') : o = some a ∧ s' = s := by
  cases o with
  | some b => cases h; exact ⟨rfl, rfl⟩
  | none => cases h

inductive COp where
  | lt | le | gt | ge | eq | ne | is | nis | isin | nin
inductive BOp where
  | add | sub | mul | fdiv | mod | pow
/-- built-in functions and types called -/
inductive B where
  | len | abs | max2 | min2 | intOf | all | any | sum | tuple | list | gcd | repr | isinst | divmod | sorted | lenset
inductive M where
  | split | splitMax | join | upper | lstrip | index | append | pop | extend | count

mutual
inductive E where
  | non | emp | bl (b : Bool) | int (i : Int) | str (x : Str)
  | var (i : Nat)
  | glo (x : Str)
  | tyc (x : Str) (n : String)
  | neg (a : E) | not (a : E)
  | bin (o : BOp) (a b : E)
  | cmp (o : COp) (a b : E)
  | chain (o o' : COp) (a b c : E)
  | bool (isAnd : Bool) (a b : E)
  | one (a : E)
  | ife (c a b : E)
  | tup (l : L) | lst (l : L) | cell (l : L)
  | ix (a i : E)
  | sl (a lo hi : E) | slrev (a : E)
  | frz (a : E)
  | call (f : Nat) (l : L)
  | callK (f : Nat) (k : Str) (a : E)
  | blt (b : B) (l : L)
  | mth (m : M) (o : E) (l : L)
  | lc (elt : E) (tg : Tg) (it : I) (c : E) (own : List (Str × Nat))
inductive L where
  | nil | cons (e : E) (l : L)
inductive I where
  | val (e : E) | rng1 (a : E) | rng2 (a b : E) | zip (a b : E) | enum (a : E)
inductive Tg where
  | nm (i : Nat) | tp (l : TLs) | sub (o i : E)
inductive TLs where
  | nil | cons (t : Tg) (l : TLs)
end
mutual
inductive ST where
  | asg (t : Tg) (e : E)
  | par2 (i j : Nat) (a b : E)
  | par3 (i j k : Nat) (a b c : E)
  | expr (e : E)
  | ret (e : E) | retN
  | ifs (c : E) (a b : BL)
  | for (t : Tg) (it : I) (b : BL)
  | whl (c : E) (b : BL)
  | brk | cnt | pas
inductive BL where
  | nil | cons (s : ST) (b : BL)
end

/-! ### values -/
def allP : List Vl → Option (List PyData)
  | [] => some []
  | .p d :: r => (allP r).map (d :: ·)
  | _ :: _ => none
mutual
def noD : PyData → Bool
  | .list ds => noDs ds
  | .tuple ds => noDs ds
  | .dict _ => false
  | _ => true
def noDs : List PyData → Bool
  | [] => true
  | d :: r => noD d && noDs r
end
/-- what a value is worth as data -/
def der (s : Cells) : Vl → Option PyData
  | .p d => if noD d then some d else none
  | .ref n => match s[n]? with
    | some (.lst xs) => (allP xs).bind fun ds => if noDs ds then some (.list ds) else none
    | _ => none
  | .scr xs => some (.list (xs.map .int))
  | _ => none
/-- the items of a list, in a cell or not -/
def lstOf (s : Cells) : Vl → Option (List Vl)
  | .p (.list xs) => some (xs.map .p)
  | .ref n => match s[n]? with
    | some (.lst xs) => some xs
    | _ => none
  | .scr xs => some ((xs.map .int).map .p)
  | _ => none
def seqOf (s : Cells) : Vl → Option (List Vl)
  | .p (.tuple xs) => some (xs.map .p)
  | v => lstOf s v
def fits (x : Str) : Bool := Nat.ble x.length sizeLine
def truth (s : Cells) : Vl → Option Bool
  | .p .none => some false
  | .p (.bool b) => some b
  | .p (.int i) => some (i != 0)
  | .p (.str x) => if fits x then some ((x.length : Int) != 0) else none
  | .p (.list xs) => some (!xs.isEmpty)
  | .p (.tuple xs) => some (!xs.isEmpty)
  | .ref n => match s[n]? with
    | some (.lst xs) => some (!xs.isEmpty)
    | _ => none
  | .scr xs => some (!xs.isEmpty)
  | _ => none
def eqD : PyData → PyData → Option Bool
  | .int i, .int j => some (i == j)
  | .str x, .str y => some (x == y)
  | d, e => if SeqAt.shaped d && SeqAt.shaped e then some (PyData.eqv d e) else none
def flatD : PyData → Bool
  | .none => true | .bool _ => true | .int _ => true | .str _ => true | _ => false
def inStr (x y : Str) : Bool := match x.cps.toList with
  | [c] => y.cps.toList.contains c
  | _ => !(Builtin.Str.occurrences y x 0 y.length 1).isEmpty
def inD : PyData → PyData → Option Bool
  | .str x, .str y => some (inStr x y)
  | d, .tuple ds => if flatD d && ds.all flatD then some (ds.any fun z => PyData.eqv z d) else none
  | d, .list ds => if SeqAt.shaped d && SeqAt.shaped (.list ds) && noD d && noDs ds then some (ds.any fun z => PyData.eqv z d) else none
  | _, _ => none
def isD : PyData → PyData → Option Bool
  | .none, .none => some true
  | .bool a, .bool b => some (a == b)
  | .bool _, .none => some false
  | .int _, .none => some false
  | .str _, .none => some false
  | .list _, .none => some false
  | .tuple _, .none => some false
  | _, _ => none
structure Pg where
  names : List (Str × List Str)
  dics : Str → Option (List (Str × PyData))
  cst : Str → Option Vl
  call : Nat → List Vl → Cells → O Vl
  fuel : Nat
def cmpV (P : Pg) (o : COp) (x y : Vl) (s : Cells) : Option Bool := match o with
  | .lt => match x, y with | .p (.int i), .p (.int j) => some (decide (i < j)) | _, _ => none
  | .le => match x, y with | .p (.int i), .p (.int j) => some (decide (i ≤ j)) | _, _ => none
  | .gt => match x, y with | .p (.int i), .p (.int j) => some (decide (j < i)) | _, _ => none
  | .ge => match x, y with | .p (.int i), .p (.int j) => some (decide (j ≤ i)) | _, _ => none
  | .eq => match der s x, der s y with | some d, some e => eqD d e | _, _ => none
  | .ne => match der s x, der s y with | some d, some e => (eqD d e).map (!·) | _, _ => none
  | .is => match x, y with | .p d, .p e => isD d e | _, _ => none
  | .nis => match x, y with | .p d, .p e => (isD d e).map (!·) | _, _ => none
  | .isin => match x, y with
    | .p (.str z), .dic g => (P.dics g).map fun t => (t.lookup z).isSome
    | .p d, .p e => inD d e
    | _, _ => none
  | .nin => match x, y with
    | .p (.str z), .dic g => (P.dics g).map fun t => !(t.lookup z).isSome
    | .p d, .p e => (inD d e).map (!·)
    | _, _ => none
def small64 (i : Int) : Bool := decide (-(2 ^ 64) < i) && decide (i < 2 ^ 64)
def binD : BOp → PyData → PyData → Option PyData
  | .add, .int i, .int j => some (.int (i + j))
  | .add, .str x, .str y => if Nat.ble (x.length + y.length) sizeLine then some (.str (x ++ y)) else none
  | .add, .list xs, .list ys => if Nat.ble (xs.length + ys.length) sizeLine then some (.list (xs ++ ys)) else none
  | .add, .tuple xs, .tuple ys => if Nat.ble (xs.length + ys.length) sizeLine then some (.tuple (xs ++ ys)) else none
  | .sub, .int i, .int j => some (.int (i - j))
  | .mul, .int i, .int j => if small64 i || small64 j then some (.int (i * j)) else none
  | .mul, .list xs, .int k => if decide (0 ≤ k) && decide (k ≤ 1000) && Nat.ble (xs.length * k.toNat) sizeLine then some (.list (List.replicate k.toNat xs).flatten) else none
  | .mul, .str x, .int k => if decide (1 ≤ k) && decide (k ≤ 1000) && Nat.ble x.length 1000 then some (.str ⟨(List.replicate k.toNat x.cps.toList).flatten.toArray⟩) else none
  | .mul, .tuple xs, .int k => if decide (2 ≤ k) && decide (k ≤ 1000) && Nat.ble xs.length 1000 && !xs.isEmpty then some (.tuple (List.replicate k.toNat xs).flatten) else none
  | .fdiv, .int i, .int j => if decide (0 < j) && decide (j < 1073741824) then some (.int (i / j)) else none
  | .mod, .int i, .int j => if decide (0 < j) then some (.int (i % j)) else none
  | .pow, .int i, .int j => if decide (0 ≤ j) && decide (j ≤ 1000000) && decide (i.natAbs < 2 ^ 64) then some (.int (i ^ j.toNat)) else none
  | _, _, _ => none
def binV (o : BOp) (x y : Vl) (s : Cells) : Option PyData := match x, y with
  | .p d, .p e => binD o d e
  | _, _ => none
/-- an item by its place -/
def ixV (P : Pg) (x y : Vl) (s : Cells) : Option Vl := match x, y with
  | .dic g, .p (.str z) => (P.dics g).bind fun t => (t.lookup z).map .p
  | .p (.str z), .p (.int i) => if fits z then (L2.atI z.cps.toList i).map fun c => .p (.str ⟨#[c]⟩) else none
  | x, .p (.int i) => (seqOf s x).bind fun xs => L2.atI xs i
  | _, _ => none
def optB : E → Vl → Option (Option Int)
  | .non, _ => some none
  | _, .p (.int i) => some (some i)
  | _, _ => none
def cutL {α : Type} (xs : List α) (lo hi : Option Int) : List α := (xs.drop (HT.sIx xs.length 0 lo)).take (HT.sIx xs.length xs.length hi - HT.sIx xs.length 0 lo)
def slV (x : Vl) (lo hi : Option Int) (s : Cells) : Option PyData := match x with
  | .p (.str z) => if fits z then some (.str ⟨(cutL z.cps.toList lo hi).toArray⟩) else none
  | .p (.list xs) => some (.list (cutL xs lo hi))
  | .p (.tuple xs) => some (.tuple (cutL xs lo hi))
  | .scr xs => some (.list (cutL (xs.map .int) lo hi))
  | _ => none
def boolsOf : List PyData → Option (List Bool)
  | [] => some []
  | .bool b :: r => (boolsOf r).map (b :: ·)
  | _ :: _ => none
def intsOf : List PyData → Option (List Int)
  | [] => some []
  | .int b :: r => (intsOf r).map (b :: ·)
  | _ :: _ => none
def strsOf : List PyData → Option (List Str)
  | [] => some []
  | .str b :: r => (strsOf r).map (b :: ·)
  | _ :: _ => none
def tyOf : PyData → Option String
  | .none => some "NoneType" | .bool _ => some "bool" | .int _ => some "int" | .str _ => some "str" | .list _ => some "list" | .tuple _ => some "tuple" | .dict _ => some "dict"
/-- isinstance of data against a type -/
def isT (d : PyData) (n : String) : Option Bool := (tyOf d).bind fun t =>
  if ["int", "str", "list", "tuple", "bool"].contains n then some (decide (t = n) || (decide (t = "bool") && decide (n = "int"))) else none
def showOk (d : PyData) : Bool := noD d && d.showable && !d.hasDict && Nat.ble d.shown.length sizeLine && Nat.ble d.depth 32
mutual
/-- data as a key of a set -/
def nkD : PyData → Option NestedKey
  | .none => some .none
  | .bool b => some (.num (if b = true then 1 else 0))
  | .int i => some (.num i)
  | .str x => some (.text x)
  | .tuple ds => (nkDs ds).map .tup
  | _ => none
def nkDs : List PyData → Option (List NestedKey)
  | [] => some []
  | d :: r => (nkD d).bind fun k => (nkDs r).map (k :: ·)
end
def noRef : Vl → Bool
  | .ref _ => false
  | _ => true
def bltV (P : Pg) (b : B) (vs : List Vl) (s : Cells) : O Vl := match b, vs with
  | .len, [.p (.str x)] => if fits x then .ok (.p (.int x.length)) s else .bad
  | .len, [v] => match seqOf s v with | some xs => .ok (.p (.int xs.length)) s | none => .bad
  | .abs, [.p (.int i)] => .ok (.p (.int (if i < 0 then -i else i))) s
  | .max2, [.p (.int i), .p (.int j)] => .ok (.p (.int (if j > i then j else i))) s
  | .min2, [.p (.int i), .p (.int j)] => .ok (.p (.int (if j < i then j else i))) s
  | .intOf, [.p (.int i)] => .ok (.p (.int i)) s
  | .intOf, [.p (.bool k)] => .ok (.p (.int (if k then 1 else 0))) s
  | .intOf, [.p (.str a)] => if Nat.ble a.length 640 then (match intText? a with | some n => .ok (.p (.int n)) s | none => .bad) else .bad
  | .all, [.p (.list xs)] => match boolsOf xs with | some bs => .ok (.p (.bool (bs.all id))) s | none => .bad
  | .any, [.p (.list xs)] => match boolsOf xs with | some bs => .ok (.p (.bool (bs.any id))) s | none => .bad
  | .sum, [.p (.list xs)] => match intsOf xs with | some ns => .ok (.p (.int ns.sum)) s | none => .bad
  | .tuple, [v] => match (seqOf s v).bind allP with | some xs => .ok (.p (.tuple xs)) s | none => .bad
  | .list, [v] => match (seqOf s v).bind allP with | some xs => .ok (.p (.list xs)) s | none => .bad
  | .gcd, [.p (.int a), .p (.int b)] => .ok (.p (.int (Nat.gcd a.natAbs b.natAbs : Nat))) s
  | .repr, [.p d] => if showOk d then .ok (.p (.str d.shown)) s else .bad
  | .isinst, [.p d, .ty n] => match isT d n with | some k => .ok (.p (.bool k)) s | none => .bad
  | .lenset, [.p (.tuple [.tuple ds])] => match nkDs ds with | some ks => if Nat.ble (NestedKey.tup ks).depth 40 then .ok (.p (.int 1)) s else .bad | none => .bad
  | .sorted, [.p (.list [d])] => .ok (.p (.list [d])) s
  | .divmod, [.p (.int i), .p (.int j)] => if decide (0 < j) && decide (j < 1073741824) then .ok (.p (.tuple [.int (i / j), .int (i % j)])) s else .bad
  | _, _ => .bad
/-- the receiver's type -/
def mthT : M → String
  | .split => "str" | .join => "str" | .upper => "str" | .lstrip => "str" | .index => "str" | .splitMax => "str"
  | .append => "list" | .pop => "list" | .extend => "list" | .count => "list"
def tyOkV (m : M) (o : Vl) (s : Cells) : Bool := match o with
  | .p (.str _) => decide (mthT m = "str")
  | .p (.list _) => decide (mthT m = "list")
  | .ref n => decide (mthT m = "list") && match s[n]? with | some (.lst _) => true | _ => false
  | _ => false
def setCell (s : Cells) (n : Nat) (xs : List Vl) : Cells := s.set n (.lst xs)
def mthV (P : Pg) (m : M) (o : Vl) (vs : List Vl) (s : Cells) : O Vl := match m, o, vs with
  | .split, .p (.str a), [.p (.str b)] => if !(b.length == 0) && Nat.ble (a.length + 2) sizeLine then .ok (.p (.list ((Txt.split a b).map .str))) s else .bad
  | .join, .p (.str a), [.p (.list xs)] => match strsOf xs with
    | some ys => if Nat.ble ((ys.map (·.length)).sum + ys.length * a.length) 16777216 then .ok (.p (.str (Txt.join a ys))) s else .bad
    | none => .bad
  | .splitMax, .p (.str a), [.p (.str b), .p (.int k)] => if !(b.length == 0) && decide (0 ≤ k) && decide (k ≤ 1000) && Nat.ble (a.length + 2) sizeLine then .ok (.p (.list ((Txt.splitMax a b k).map .str))) s else .bad
  | .lstrip, .p (.str a), [.p (.str b)] => if fits a then .ok (.p (.str (Txt.lstripChars a b))) s else .bad
  | .index, .p (.str a), [.p (.str b)] => match Txt.index0 a b with | some k => .ok (.p (.int (k : Nat))) s | none => .bad
  | .upper, .p (.str a), [] => if Nat.ble a.length 5592405 then .ok (.p (.str (Txt.upper a))) s else .bad
  | .append, .ref n, [v] => match s[n]? with
    | some (.lst xs) => if Nat.blt xs.length sizeLine then .ok (.p .none) (setCell s n (xs ++ [v])) else .bad
    | _ => .bad
  | .pop, .ref n, [] => match s[n]? with
    | some (.lst xs) => match xs[xs.length - 1]? with | some y => .ok y (setCell s n xs.dropLast) | none => .bad
    | _ => .bad
  | .count, .p (.list ds), [.p d] => if SeqAt.shaped d && SeqAt.shaped (.list ds) && noD d && noDs ds then .ok (.p (.int ((ds.countP fun z => PyData.eqv z d : Nat) : Int))) s else .bad
  | .extend, .ref n, [.p (.list ys)] => match s[n]? with
    | some (.lst xs) => if Nat.ble (xs.length + ys.length) sizeLine then .ok (.p .none) (setCell s n (xs ++ ys.map .p)) else .bad
    | _ => .bad
  | _, _, _ => .bad
/-- the items that a for walks -/
def itemsV (s : Cells) : Vl → Option (List Vl)
  | .p (.list xs) => some (xs.map .p)
  | .p (.tuple xs) => some (xs.map .p)
  | .p (.str x) => some (x.cps.toList.map fun c => .p (.str ⟨#[c]⟩))
  | _ => none
def rngItems (lo : Int) (n : Nat) : List Vl := (List.range n).map fun k => .p (.int (lo + (k : Nat)))
def inRng (i : Int) : Bool := decide (-(2 ^ 62) ≤ i) && decide (i < 2 ^ 62)
def wipeS (sl : Sl) : List Nat → Sl
  | [] => sl
  | v :: vs => (wipeS sl vs).set v none

/-! ### terms -/
/-- a comprehension's turns -/
def lcLoop (f : Vl → Cells → O (Option PyData)) : List Vl → Cells → O (List PyData)
  | [], s => .ok [] s
  | x :: r, s => (f x s).bind fun o s => (lcLoop f r s).bind fun ys s => .ok (match o with | some y => y :: ys | none => ys) s
mutual
def evE (P : Pg) : E → Sl → Cells → O Vl
  | .non, _, s => .ok (.p .none) s
  | .emp, _, s => .ok (.p (.dict [])) s
  | .bl b, _, s => .ok (.p (.bool b)) s
  | .int i, _, s => .ok (.p (.int i)) s
  | .str x, _, s => .ok (.p (.str x)) s
  | .var i, sl, s => match sl[i]? with | some (some v) => .ok v s | _ => .bad
  | .glo x, _, s => match P.cst x with | some v => .ok v s | none => .bad
  | .tyc _ n, _, s => .ok (.ty n) s
  | .neg a, sl, s => (evE P a sl s).bind fun x s => match x with | .p (.int i) => .ok (.p (.int (-i))) s | _ => .bad
  | .not a, sl, s => (evE P a sl s).bind fun x s => match truth s x with | some b => .ok (.p (.bool (!b))) s | none => .bad
  | .bin o a b, sl, s => (evE P a sl s).bind fun x s => (evE P b sl s).bind fun y s => (lift (binV o x y s) s).bind fun d s => .ok (.p d) s
  | .cmp o a b, sl, s => (evE P a sl s).bind fun x s => (evE P b sl s).bind fun y s => (lift (cmpV P o x y s) s).bind fun k s => .ok (.p (.bool k)) s
  | .chain o o' a b c, sl, s => (evE P a sl s).bind fun x s => (evE P b sl s).bind fun y s => (lift (cmpV P o x y s) s).bind fun k s =>
      match k with
      | true => (evE P c sl s).bind fun z s => (lift (cmpV P o' y z s) s).bind fun k s => .ok (.p (.bool k)) s
      | false => .ok (.p (.bool false)) s
  | .bool isAnd a b, sl, s => (evE P a sl s).bind fun x s => (lift (truth s x) s).bind fun k s => match Bool.xor k isAnd with
      | false => evE P b sl s
      | true => .ok x s
  | .one a, sl, s => evE P a sl s
  | .ife c a b, sl, s => (evE P c sl s).bind fun x s => (lift (truth s x) s).bind fun k s => match k with
      | true => evE P a sl s
      | false => evE P b sl s
  | .tup l, sl, s => (evL P l sl s).bind fun vs s => (lift (allP vs) s).bind fun ds s => .ok (.p (.tuple ds)) s
  | .lst l, sl, s => (evL P l sl s).bind fun vs s => (lift (allP vs) s).bind fun ds s => .ok (.p (.list ds)) s
  | .cell l, sl, s => (evL P l sl s).bind fun vs s => .ok (.ref s.length) (s ++ [.lst vs])
  | .ix a i, sl, s => (evE P a sl s).bind fun x s => (evE P i sl s).bind fun y s => (lift (ixV P x y s) s)
  | .sl a lo hi, sl, s => (evE P a sl s).bind fun x s => (evE P lo sl s).bind fun l s => (evE P hi sl s).bind fun h s =>
      (lift (optB lo l) s).bind fun l s => (lift (optB hi h) s).bind fun h s => (lift (slV x l h s) s).bind fun d s => .ok (.p d) s
  | .slrev a, sl, s => (evE P a sl s).bind fun x s => match x with | .p (.list xs) => .ok (.p (.list xs.reverse)) s | _ => .bad
  | .frz a, sl, s => (evE P a sl s).bind fun x s => match x with
      | .ref n => match s[n]? with
        | some (.lst xs) => (lift (allP xs) s).bind fun ds s => .ok (.p (.list ds)) (s.set n .dead)
        | _ => .bad
      | _ => .bad
  | .call f l, sl, s => (evL P l sl s).bind fun vs s => P.call f vs s
  | .callK f _ a, sl, s => (evE P a sl s).bind fun v s => P.call f [v] s
  | .blt b l, sl, s => (evL P l sl s).bind fun vs s => bltV P b vs s
  | .mth m o l, sl, s => (evE P o sl s).bind fun x s => match tyOkV m x s with
      | true => (evL P l sl s).bind fun vs s => mthV P m x vs s
      | false => .bad
  | .lc elt tg it c own, sl, s => (evI P it sl s).bind fun xs s =>
      (lcLoop (fun x s => (bindT P tg x (wipeS sl (own.map (·.2))) s).bind fun sl' s => (evE P c sl' s).bind fun k s => (lift (truth s k) s).bind fun k s =>
        match k with
        | true => (evE P elt sl' s).bind fun y s => match y with | .p d => .ok (some d) s | _ => .bad
        | false => .ok none s) xs s).bind fun ds s => if Nat.ble ds.length sizeLine then .ok (.p (.list ds)) s else .bad
def evL (P : Pg) : L → Sl → Cells → O (List Vl)
  | .nil, _, s => .ok [] s
  | .cons e l, sl, s => (evE P e sl s).bind fun x s => (evL P l sl s).bind fun xs s => .ok (x :: xs) s
def evI (P : Pg) : I → Sl → Cells → O (List Vl)
  | .val e, sl, s => (evE P e sl s).bind fun x s => lift (itemsV s x) s
  | .rng1 a, sl, s => (evE P a sl s).bind fun x s => match x with
      | .p (.int i) => if inRng i then .ok (rngItems 0 i.toNat) s else .bad
      | _ => .bad
  | .rng2 a b, sl, s => (evE P a sl s).bind fun x s => (evE P b sl s).bind fun y s => match x, y with
      | .p (.int i), .p (.int j) => if inRng i && inRng j then .ok (rngItems i (j - i).toNat) s else .bad
      | _, _ => .bad
  | .zip a b, sl, s => (evE P a sl s).bind fun x s => (evE P b sl s).bind fun y s => (lift (itemsV s x) s).bind fun xs s => (lift (itemsV s y) s).bind fun ys s =>
      (lift (allP xs) s).bind fun xs s => (lift (allP ys) s).bind fun ys s => .ok ((xs.zip ys).map fun q => .p (.tuple [q.1, q.2])) s
  | .enum a, sl, s => (evE P a sl s).bind fun x s => match x with
      | .p (.list xs) => .ok (xs.zipIdx.map fun q => .p (.tuple [.int (q.2 : Nat), q.1])) s
      | _ => .bad
/-- the slots behind a store -/
def bindT (P : Pg) : Tg → Vl → Sl → Cells → O Sl
  | .nm i, v, sl, s => .ok (sl.set i (some v)) s
  | .tp l, v, sl, s => (lift (seqOf s v) s).bind fun xs s => bindTL P l xs sl s
  | .sub o i, v, sl, s => (evE P o sl s).bind fun x s => (evE P i sl s).bind fun y s => match x, y with
      | .ref n, .p (.int k) => match s[n]? with
        | some (.lst xs) => (lift (L2.ixN xs.length k) s).bind fun j s => .ok sl (setCell s n (xs.set j v))
        | _ => .bad
      | _, _ => .bad
def bindTL (P : Pg) : TLs → List Vl → Sl → Cells → O Sl
  | .nil, [], sl, s => .ok sl s
  | .cons t l, x :: xs, sl, s => (bindT P t x sl s).bind fun sl s => bindTL P l xs sl s
  | _, _, _, _ => .bad
end

/-! ### statements -/
inductive Out where
  | nx (sl : Sl) | rt (v : Vl) | bk (sl : Sl) | ct (sl : Sl)
def forLoop (f : Vl → Sl → Cells → O Out) : List Vl → Sl → Cells → O Out
  | [], sl, s => .ok (.nx sl) s
  | x :: r, sl, s => (f x sl s).bind fun o s => match o with
    | .nx sl => forLoop f r sl s
    | .ct sl => forLoop f r sl s
    | .bk sl => .ok (.nx sl) s
    | .rt v => .ok (.rt v) s
def whlLoop (c : Sl → Cells → O Bool) (f : Sl → Cells → O Out) : Nat → Sl → Cells → O Out
  | 0, _, _ => .bad
  | n + 1, sl, s => (c sl s).bind fun k s => match k with
    | false => .ok (.nx sl) s
    | true => (f sl s).bind fun o s => match o with
      | .nx sl => whlLoop c f n sl s
      | .ct sl => whlLoop c f n sl s
      | .bk sl => .ok (.nx sl) s
      | .rt v => .ok (.rt v) s
def evT (P : Pg) (e : E) (sl : Sl) (s : Cells) : O Bool := (evE P e sl s).bind fun x s => lift (truth s x) s
mutual
def evS (P : Pg) : ST → Sl → Cells → O Out
  | .asg t e, sl, s => (evE P e sl s).bind fun v s => (bindT P t v sl s).bind fun sl s => .ok (.nx sl) s
  | .par2 i j a b, sl, s => (evE P a sl s).bind fun x s => (evE P b sl s).bind fun y s => .ok (.nx ((sl.set i (some x)).set j (some y))) s
  | .par3 i j k a b c, sl, s => (evE P a sl s).bind fun x s => (evE P b sl s).bind fun y s => (evE P c sl s).bind fun z s => .ok (.nx (((sl.set i (some x)).set j (some y)).set k (some z))) s
  | .expr e, sl, s => (evE P e sl s).bind fun _ s => .ok (.nx sl) s
  | .ret e, sl, s => (evE P e sl s).bind fun v s => .ok (.rt v) s
  | .retN, _, s => .ok (.rt (.p .none)) s
  | .ifs c a b, sl, s => (evT P c sl s).bind fun k s => match k with
      | true => evB P a sl s
      | false => evB P b sl s
  | .for t it b, sl, s => (evI P it sl s).bind fun xs s => forLoop (fun x sl s => (bindT P t x sl s).bind fun sl s => evB P b sl s) xs sl s
  | .whl c b, sl, s => whlLoop (evT P c) (fun sl s => evB P b sl s) P.fuel sl s
  | .brk, sl, s => .ok (.bk sl) s
  | .cnt, sl, s => .ok (.ct sl) s
  | .pas, sl, s => .ok (.nx sl) s
def evB (P : Pg) : BL → Sl → Cells → O Out
  | .nil, sl, s => .ok (.nx sl) s
  | .cons t b, sl, s => (evS P t sl s).bind fun o s => match o with
      | .nx sl => evB P b sl s
      | o => .ok o s
end

/-! ### defs -/
structure Fn where
  np : Nat
  nl : Nat
  body : BL
  pure : Bool := true
  dfl : List PyData := []
def fnEnd : O Out → O Vl
  | .ok (.rt v) s => .ok v s
  | .ok (.nx _) s => .ok (.p .none) s
  | _ => .bad
structure Pr where
  names : List (Str × List Str)
  fns : List Fn
  dics : Str → Option (List (Str × PyData))
  cst : Str → Option Vl
  fuel : Nat
def callF (R : Pr) : Nat → Nat → List Vl → Cells → O Vl
  | 0, _, _, _ => .bad
  | d + 1, f, vs, s => match R.fns[f]? with
    | none => .bad
    | some F =>
      let vs := vs ++ (F.dfl.drop (F.dfl.length - (F.np - vs.length))).map .p
      if vs.length == F.np then
        let sl : Sl := vs.map some ++ List.replicate (F.nl - vs.length) none
        if F.pure then
          match vs.all noRef with
          | true => match fnEnd (evB ⟨R.names, R.dics, R.cst, callF R d, R.fuel⟩ F.body sl []) with
            | .ok (.p r) _ => .ok (.p r) s
            | _ => .bad
          | false => .bad
        else fnEnd (evB ⟨R.names, R.dics, R.cst, callF R d, R.fuel⟩ F.body sl s)
      else .bad
end Sh
/-! Sh2: how the small language's values and cells stand in the abstract heap. -/
set_option linter.all false
set_option autoImplicit false
namespace Sh
open PySem PySem.Spec PyProof.Rows L2

/-- what no step changes any more (Z), where the cells stand (rho) -/
structure Gh where
  Z : Addr → Prop
  rho : List Addr

section
variable (K : PySem.W.Frag) (mg : Str → Option Value)
mutual
inductive DZ (Z : Addr → Prop) (H : Hp) : V → PyData → Prop where
  | non : DZ Z H .non .none
  | bl (b : Bool) : DZ Z H (.bl b) (.bool b)
  | int (i : Int) : DZ Z H (.int i) (.int i)
  | str (x : Str) : DZ Z H (.str x) (.str x)
  | lst {a : Addr} {xs : List V} {ds : List PyData} (h : H a = some (.lst xs)) (z : Z a) (hs : DZs Z H xs ds) : DZ Z H (.ref a) (.list ds)
  | tup {a : Addr} {xs : List V} {ds : List PyData} (h : SqT K H a xs) (hs : DZs Z H xs ds) : DZ Z H (.ref a) (.tuple ds)
  | emp {a : Addr} (h : H a = some (.dK [])) : DZ Z H (.ref a) (.dict [])
inductive DZs (Z : Addr → Prop) (H : Hp) : List V → List PyData → Prop where
  | nil : DZs Z H [] []
  | cons {v : V} {vs : List V} {d : PyData} {ds : List PyData} (h : DZ Z H v d) (hs : DZs Z H vs ds) : DZs Z H (v :: vs) (d :: ds)
end
/-- a list that no step changes -/
def SqF (H : Hp) (a : Addr) (xs : List V) : Prop := (∃ o, H a = some (.frz o (.lst xs))) ∨
  ∃ (o : Obj) (its : Array Value) (n : Nat), K.lookup a = some o ∧ o.cls = .type "list" ∧ o.dict = none ∧ o.data = .seq its n ∧ its.size ≤ sizeLine ∧ Vals xs its.toList
inductive RL (g : Gh) (H : Hp) : Vl → V → Prop where
  | p {d : PyData} {v : V} (h : DZ K g.Z H v d) : RL g H (.p d) v
  | ref {n : Nat} {a : Addr} (h : g.rho[n]? = some a) : RL g H (.ref n) (.ref a)
  | dic {x : Str} {a : Addr} (h : mg x = some (.ref a)) : RL g H (.dic x) (.ref a)
  | ty (n : String) : RL g H (.ty n) (.ty n)
  | scr {xs : List Int} {a : Addr} (h : SqF K H a (xs.map V.int)) : RL g H (.scr xs) (.ref a)
inductive RLs (g : Gh) (H : Hp) : List Vl → List V → Prop where
  | nil : RLs g H [] []
  | cons {x : Vl} {xs : List Vl} {v : V} {vs : List V} (h : RL K mg g H x v) (hs : RLs g H xs vs) : RLs g H (x :: xs) (v :: vs)
def CellR (g : Gh) (H : Hp) : SO → Addr → Prop
  | .dead, _ => True
  | .lst xs, a => ∃ vs, H a = some (.lst vs) ∧ RLs K mg g H xs vs
structure CS (g : Gh) (s : Cells) (H : Hp) : Prop where
  len : s.length = g.rho.length
  at_ : ∀ (n : Nat) (o : SO) (a : Addr), s[n]? = some o → g.rho[n]? = some a → CellR K mg g H o a
  nd : g.rho.Nodup
  zr : ∀ (n : Nat) (xs : List Vl) (a : Addr), s[n]? = some (.lst xs) → g.rho[n]? = some a → ¬ g.Z a
  zt : ∀ a, g.Z a → H a ≠ none
  rt : ∀ a ∈ g.rho, H a ≠ none
def SR (g : Gh) (H : Hp) (sl : Sl) (σ : L2.St) : Prop := sl.length = σ.length ∧ ∀ (i : Nat) (v : Vl), sl[i]? = some (some v) → ∃ u, σ[i]? = some (some u) ∧ RL K mg g H v u
end

def isL : HO → Bool
  | .lst _ => true
  | _ => false
/-- from one moment to a later one -/
structure Mo (g : Gh) (H : Hp) (g' : Gh) (H' : Hp) : Prop where
  fz : ∀ a, g.Z a → g'.Z a
  fo : ∀ a o, H a = some o → a ∉ g.rho → H' a = some o
  fd : ∀ a o, g.Z a → H a = some o → H' a = some o
  ft : ∀ a o, H a = some o → isL o = false → H' a = some o
  fn : ∀ a, g'.Z a → g.Z a ∨ H a = none ∨ a ∈ g.rho
  fr : ∀ (n : Nat) (a : Addr), g.rho[n]? = some a → g'.rho[n]? = some a
  fm : ∀ a, a ∈ g'.rho → a ∈ g.rho ∨ H a = none
  fh : ∀ a, H a ≠ none → H' a ≠ none
section
variable {K : PySem.W.Frag} {mg : Str → Option Value} {g g1 g2 : Gh} {H H1 H2 : Hp} {s : Cells} {p a : Addr} {o : HO}
theorem Mo.refl : Mo g H g H := ⟨fun _ h => h, fun _ _ h _ => h, fun _ _ _ h => h, fun _ _ h _ => h, fun _ h => .inl h, fun _ _ h => h, fun _ h => .inl h, fun _ h => h⟩
theorem Mo.trans (x : Mo g H g1 H1) (y : Mo g1 H1 g2 H2) : Mo g H g2 H2 where
  fz := fun a h => y.fz a (x.fz a h)
  fo := fun a o h n => by
    have h1 := x.fo a o h n
    refine y.fo a o h1 fun hm => ?_
    rcases x.fm a hm with q | q
    · exact n q
    · rw [h] at q; cases q
  fd := fun a o z h => y.fd a o (x.fz a z) (x.fd a o z h)
  ft := fun a o h n => y.ft a o (x.ft a o h n) n
  fn := fun a z => by
    rcases y.fn a z with q | q | q
    · exact x.fn a q
    · refine .inr (.inl ?_)
      cases e : H a with
      | none => rfl
      | some o => exact absurd q (x.fh a (by rw [e]; exact fun z => nomatch z))
    · rcases x.fm a q with r | r
      · exact .inr (.inr r)
      · exact .inr (.inl r)
  fr := fun n a h => y.fr n a (x.fr n a h)
  fm := fun a h => by
    rcases y.fm a h with q | q
    · exact x.fm a q
    · refine .inr ?_
      cases e : H a with
      | none => rfl
      | some o => exact absurd q (x.fh a (by rw [e]; exact fun z => nomatch z))
  fh := fun a h => y.fh a (x.fh a h)
theorem Mo.sqt (x : Mo g H g1 H1) {xs : List V} (h : SqT K H a xs) : SqT K H1 a xs := by
  rcases h with (h | ⟨o, h⟩) | h
  · exact .inl (.inl (x.ft _ _ h rfl))
  · exact .inl (.inr ⟨o, x.ft _ _ h rfl⟩)
  · exact .inr h
mutual
theorem Mo.dz (x : Mo g H g1 H1) : ∀ {v : V} {d : PyData}, DZ K g.Z H v d → DZ K g1.Z H1 v d
  | _, _, .non => .non
  | _, _, .bl b => .bl b
  | _, _, .int i => .int i
  | _, _, .str y => .str y
  | _, _, .lst h z hs => .lst (x.fd _ _ z h) (x.fz _ z) (Mo.dzs x hs)
  | _, _, .tup h hs => .tup (x.sqt h) (Mo.dzs x hs)
  | _, _, .emp h => .emp (x.ft _ _ h rfl)
theorem Mo.dzs (x : Mo g H g1 H1) : ∀ {vs : List V} {ds : List PyData}, DZs K g.Z H vs ds → DZs K g1.Z H1 vs ds
  | _, _, .nil => .nil
  | _, _, .cons h hs => .cons (Mo.dz x h) (Mo.dzs x hs)
end
theorem Mo.rl (x : Mo g H g1 H1) {v : Vl} {u : V} (h : RL K mg g H v u) : RL K mg g1 H1 v u := by
  cases h with
  | p h => exact .p (x.dz h)
  | ref h => exact .ref (x.fr _ _ h)
  | dic h => exact .dic h
  | ty n => exact .ty n
  | scr h =>
    rcases h with ⟨o, h⟩ | h
    · exact .scr (.inl ⟨o, x.ft _ _ h rfl⟩)
    · exact .scr (.inr h)
theorem SqF.sql {xs : List V} (h : SqF K H a xs) : SqL K H a xs := by
  rcases h with ⟨o, h⟩ | h
  · exact .inl (.inr ⟨o, h⟩)
  · exact .inr h
theorem Mo.rls (x : Mo g H g1 H1) : ∀ {vs : List Vl} {us : List V}, RLs K mg g H vs us → RLs K mg g1 H1 vs us
  | _, _, .nil => .nil
  | _, _, .cons h hs => .cons (x.rl h) (Mo.rls x hs)
theorem Mo.sr (x : Mo g H g1 H1) {sl : Sl} {σ : L2.St} (h : SR K mg g H sl σ) : SR K mg g1 H1 sl σ :=
  ⟨h.1, fun i v e => let ⟨u, e1, r⟩ := h.2 i v e; ⟨u, e1, x.rl r⟩⟩
mutual
theorem DZ.dp {Z : Addr → Prop} : ∀ {v : V} {d : PyData}, DZ K Z H v d → noD d = true → Dp K H v d
  | _, _, .non, _ => .non
  | _, _, .bl b, _ => .bl b
  | _, _, .int i, _ => .int i
  | _, _, .str y, _ => .str y
  | _, _, .lst h z hs, n => .lst (SqL.of h) (DZs.dp hs n)
  | _, _, .tup h hs, n => .tup h (DZs.dp hs n)
  | _, _, .emp h, n => by cases n
theorem DZs.dp {Z : Addr → Prop} : ∀ {vs : List V} {ds : List PyData}, DZs K Z H vs ds → noDs ds = true → DpAll K H vs ds
  | _, _, .nil, _ => .nil
  | _, _, @DZs.cons _ _ _ v vs d ds h hs, n =>
    have n' := Bool.and_eq_true_iff.mp (show (noD d && noDs ds) = true from n)
    .cons (DZ.dp h n'.1) (DZs.dp hs n'.2)
end
theorem noD_ints : ∀ ns : List Int, noDs (ns.map PyData.int) = true
  | [] => rfl
  | n :: r => by
    show (true && noDs (r.map PyData.int)) = true
    rw [noD_ints r]; rfl
theorem DZs.length {Z : Addr → Prop} : ∀ {vs : List V} {ds : List PyData}, DZs K Z H vs ds → vs.length = ds.length
  | _, _, .nil => rfl
  | _, _, .cons h hs => congrArg (· + 1) (DZs.length hs)
theorem RLs.length : ∀ {vs : List Vl} {us : List V}, RLs K mg g H vs us → vs.length = us.length
  | _, _, .nil => rfl
  | _, _, .cons h hs => congrArg (· + 1) (RLs.length hs)
theorem RLs.get : ∀ {vs : List Vl} {us : List V} {i : Nat} {v : Vl}, RLs K mg g H vs us → vs[i]? = some v → ∃ u, us[i]? = some u ∧ RL K mg g H v u
  | _, _, _, _, .nil, e => by simp at e
  | _, _, 0, _, .cons h hs, e => by
    simp at e; subst e; exact ⟨_, rfl, h⟩
  | _, _, i + 1, v, .cons h hs, e => by
    obtain ⟨u, e1, r⟩ := RLs.get (i := i) (v := v) hs (by simpa using e)
    exact ⟨u, by simpa using e1, r⟩
theorem DZs.get {Z : Addr → Prop} : ∀ {vs : List V} {ds : List PyData} {i : Nat} {d : PyData}, DZs K Z H vs ds → ds[i]? = some d → ∃ u, vs[i]? = some u ∧ DZ K Z H u d
  | _, _, _, _, .nil, e => by simp at e
  | _, _, 0, _, .cons h hs, e => by
    simp at e; subst e; exact ⟨_, rfl, h⟩
  | _, _, i + 1, v, .cons h hs, e => by
    obtain ⟨u, e1, r⟩ := DZs.get (i := i) (d := v) hs (by simpa using e)
    exact ⟨u, by simpa using e1, r⟩
theorem RLs.append : ∀ {vs ws : List Vl} {us xs : List V}, RLs K mg g H vs us → RLs K mg g H ws xs → RLs K mg g H (vs ++ ws) (us ++ xs)
  | _, _, _, _, .nil, k => k
  | _, _, _, _, .cons h hs, k => .cons h (RLs.append hs k)
theorem DZs.append {Z : Addr → Prop} : ∀ {vs ws : List V} {us xs : List PyData}, DZs K Z H vs us → DZs K Z H ws xs → DZs K Z H (vs ++ ws) (us ++ xs)
  | _, _, _, _, .nil, k => k
  | _, _, _, _, .cons h hs, k => .cons h (DZs.append hs k)
theorem DZs.take {Z : Addr → Prop} : ∀ (n : Nat) {vs : List V} {ds : List PyData}, DZs K Z H vs ds → DZs K Z H (vs.take n) (ds.take n)
  | 0, _, _, _ => by simp only [List.take_zero]; exact .nil
  | _ + 1, _, _, .nil => .nil
  | n + 1, _, _, .cons h hs => .cons h (DZs.take n hs)
theorem DZs.drop {Z : Addr → Prop} : ∀ (n : Nat) {vs : List V} {ds : List PyData}, DZs K Z H vs ds → DZs K Z H (vs.drop n) (ds.drop n)
  | 0, _, _, h => h
  | _ + 1, _, _, .nil => .nil
  | n + 1, _, _, .cons h hs => DZs.drop n hs
theorem RLs.set {x : Vl} {v : V} (r : RL K mg g H x v) : ∀ {vs : List Vl} {us : List V} (i : Nat), RLs K mg g H vs us → RLs K mg g H (vs.set i x) (us.set i v)
  | _, _, _, .nil => .nil
  | _, _, 0, .cons h hs => .cons r hs
  | _, _, i + 1, .cons h hs => .cons h (RLs.set r i hs)
theorem RLs.dropLast {vs : List Vl} {us : List V} (h : RLs K mg g H vs us) : RLs K mg g H vs.dropLast us.dropLast := by
  induction h with
  | nil => exact .nil
  | cons h hs ih =>
    cases hs with
    | nil => exact .nil
    | cons h2 hs2 => exact .cons h ih
theorem RLs.of_dz : ∀ {vs : List V} {ds : List PyData}, DZs K g.Z H vs ds → RLs K mg g H (ds.map .p) vs
  | _, _, .nil => .nil
  | _, _, .cons h hs => .cons (.p h) (RLs.of_dz hs)
theorem RL.dz {d : PyData} {v : V} (h : RL K mg g H (.p d) v) : DZ K g.Z H v d := by
  cases h with
  | p h => exact h
theorem allP_dz {xs : List Vl} : ∀ {ds : List PyData} {vs : List V}, allP xs = some ds → RLs K mg g H xs vs → DZs K g.Z H vs ds := by
  induction xs with
  | nil =>
    intro ds vs e h
    cases e; cases h; exact .nil
  | cons x r ih =>
    intro ds vs e h
    cases h with
    | cons h hs =>
      cases x with
      | p d =>
        have e : (allP r).map (d :: ·) = some ds := e
        cases q : allP r with
        | none => rw [q] at e; cases e
        | some es =>
          rw [q] at e; cases e
          exact .cons h.dz (ih q hs)
      | _ => cases e

/-! ### steps -/
def Gh.add (g : Gh) (p : Addr) : Gh := ⟨fun a => g.Z a ∨ a = p, g.rho⟩
def Gh.push (g : Gh) (p : Addr) : Gh := ⟨g.Z, g.rho ++ [p]⟩
theorem CellR.mo {c : SO} (x : Mo g H g1 H1) (h : CellR K mg g H c a) (hl : ∀ vs, (∃ xs, c = .lst xs) → H a = some (.lst vs) → H1 a = some (.lst vs)) : CellR K mg g1 H1 c a := by
  cases c with
  | dead => trivial
  | lst xs =>
    obtain ⟨vs, e, r⟩ := h
    exact ⟨vs, hl vs ⟨xs, rfl⟩ e, x.rls r⟩
theorem upd_of {b : Addr} {u : HO} (hp : H p = none) (e : H b = some u) : upd H p o b = some u := by
  rw [upd_ne (ne_of_none e hp)]; exact e
theorem upd_nn {b : Addr} (e : H b ≠ none) : upd H p o b ≠ none := by
  unfold upd
  split
  · exact fun z => nomatch z
  · exact e
theorem sql_upd {b : Addr} {vs : List V} (hp : H p = none) (h : SqL K H b vs) : SqL K (upd H p o) b vs := by
  rcases h with (h | ⟨u, h⟩) | h
  · exact .inl (.inl (upd_of hp h))
  · exact .inl (.inr ⟨u, upd_of hp h⟩)
  · exact .inr h
theorem Mo.alloc (hp : H p = none) : Mo g H g (upd H p o) :=
  ⟨fun _ h => h, fun _ _ h _ => upd_of hp h, fun _ _ _ h => upd_of hp h, fun _ _ h _ => upd_of hp h, fun _ h => .inl h, fun _ _ h => h, fun _ h => .inl h, fun _ h => upd_nn h⟩
theorem CS.alloc (c : CS K mg g s H) (hp : H p = none) : CS K mg g s (upd H p o) where
  len := c.len
  at_ := fun n q a e1 e2 => (c.at_ n q a e1 e2).mo (Mo.alloc hp) (fun vs _ h => upd_of hp h)
  nd := c.nd
  zr := c.zr
  zt := fun a z => upd_nn (c.zt a z)
  rt := fun a z => upd_nn (c.rt a z)
theorem Mo.allocZ (hp : H p = none) : Mo g H (g.add p) (upd H p o) :=
  ⟨fun _ h => .inl h, fun _ _ h _ => upd_of hp h, fun _ _ _ h => upd_of hp h, fun _ _ h _ => upd_of hp h, fun a h => h.elim .inl fun e => .inr (.inl (by rw [e]; exact hp)), fun _ _ h => h, fun _ h => .inl h, fun _ h => upd_nn h⟩
theorem CS.allocZ (c : CS K mg g s H) (hp : H p = none) : CS K mg (g.add p) s (upd H p o) where
  len := c.len
  at_ := fun n q a e1 e2 => (c.at_ n q a e1 e2).mo (Mo.allocZ hp) (fun vs _ h => upd_of hp h)
  nd := c.nd
  zr := fun n xs a e1 e2 z => by
    rcases z with z | z
    · exact c.zr n xs a e1 e2 z
    · exact c.rt a (List.mem_of_getElem? e2) (by rw [z]; exact hp)
  zt := fun a z => by
    rcases z with z | z
    · exact upd_nn (c.zt a z)
    · rw [z, upd_same]; exact fun q => nomatch q
  rt := fun a z => upd_nn (c.rt a z)
theorem Mo.allocC (hp : H p = none) : Mo g H (g.push p) (upd H p o) :=
  ⟨fun _ h => h, fun _ _ h _ => upd_of hp h, fun _ _ _ h => upd_of hp h, fun _ _ h _ => upd_of hp h, fun _ h => .inl h, fun n a h => by
    show (g.rho ++ [p])[n]? = some a
    rw [List.getElem?_append_left (List.getElem?_eq_some_iff.mp h).1]; exact h,
    fun a h => by
      rcases List.mem_append.mp h with h | h
      · exact .inl h
      · rw [List.mem_singleton.mp h]; exact .inr hp, fun _ h => upd_nn h⟩
theorem CS.allocC (c : CS K mg g s H) (hp : H p = none) {xs : List Vl} {vs : List V} (r : RLs K mg g H xs vs) : CS K mg (g.push p) (s ++ [.lst xs]) (upd H p (.lst vs)) where
  len := by
    show (s ++ [_]).length = (g.rho ++ [p]).length
    rw [List.length_append, List.length_append, c.len]; rfl
  at_ := fun n q a e1 e2 => by
    have e2 : (g.rho ++ [p])[n]? = some a := e2
    by_cases hn : n < s.length
    · rw [List.getElem?_append_left hn] at e1
      rw [List.getElem?_append_left (by rw [← c.len]; exact hn)] at e2
      exact (c.at_ n q a e1 e2).mo (Mo.allocC hp) (fun vs _ h => upd_of hp h)
    · have hn' : n = s.length := by
        have := (List.getElem?_eq_some_iff.mp e1).1
        simp at this; omega
      subst hn'
      rw [List.getElem?_append_right (Nat.le_refl _)] at e1
      rw [List.getElem?_append_right (by rw [c.len]; exact Nat.le_refl _)] at e2
      simp [c.len] at e1 e2
      subst e1; subst e2
      exact ⟨vs, upd_same, (Mo.allocC hp).rls r⟩
  nd := by
    show (g.rho ++ [p]).Nodup
    rw [List.nodup_append]
    refine ⟨c.nd, by simp, fun a ha b hb => ?_⟩
    rw [List.mem_singleton.mp hb]
    rintro rfl
    exact c.rt _ ha hp
  zr := fun n ys a e1 e2 z => by
    have e2 : (g.rho ++ [p])[n]? = some a := e2
    by_cases hn : n < s.length
    · rw [List.getElem?_append_left hn] at e1
      rw [List.getElem?_append_left (by rw [← c.len]; exact hn)] at e2
      exact c.zr n ys a e1 e2 z
    · have hn' : n = s.length := by
        have := (List.getElem?_eq_some_iff.mp e1).1
        simp at this; omega
      subst hn'
      rw [List.getElem?_append_right (by rw [c.len]; exact Nat.le_refl _)] at e2
      simp [c.len] at e2
      subst e2
      exact c.zt _ z hp
  zt := fun a z => upd_nn (c.zt a z)
  rt := fun a z => by
    rcases List.mem_append.mp z with z | z
    · exact upd_nn (c.rt a z)
    · rw [List.mem_singleton.mp z, upd_same]; exact fun q => nomatch q
/-- a cell's content is changed -/
theorem CS.there (c : CS K mg g s H) {n : Nat} {q : SO} (e : s[n]? = some q) : ∃ a, g.rho[n]? = some a := by
  have h := (List.getElem?_eq_some_iff.mp e).1
  rw [c.len] at h
  exact ⟨_, List.getElem?_eq_getElem h⟩
theorem Mo.upd {n : Nat} {vs ws : List V} (hr : g.rho[n]? = some a) (hz : ¬ g.Z a) (ha : H a = some (.lst ws)) : Mo g H g (L2.upd H a (.lst vs)) where
  fz := fun _ h => h
  fo := fun b o h n => by
    rw [upd_ne (fun z => n (by rw [z]; exact List.mem_of_getElem? hr))]; exact h
  fd := fun b o z h => by
    rw [upd_ne (fun q => hz (by rw [← q]; exact z))]; exact h
  ft := fun b o h n => by
    rw [upd_ne (fun q => by rw [q, ha] at h; cases h; cases n)]; exact h
  fn := fun _ h => .inl h
  fr := fun _ _ h => h
  fm := fun _ h => .inl h
  fh := fun _ h => upd_nn h
theorem CS.put (c : CS K mg g s H) {n : Nat} {xs ys : List Vl} {vs ws : List V} (e : s[n]? = some (.lst ys)) (hr : g.rho[n]? = some a) (ha : H a = some (.lst ws)) (r : RLs K mg g H xs vs) :
    CS K mg g (setCell s n xs) (L2.upd H a (.lst vs)) := by
  have hz := c.zr n ys a e hr
  have m : Mo g H g (L2.upd H a (.lst vs)) := Mo.upd hr hz ha
  refine ⟨by unfold setCell; rw [List.length_set]; exact c.len, fun k q b e1 e2 => ?_, c.nd, fun k zs b e1 e2 => ?_, fun b z => upd_nn (c.zt b z), fun b z => upd_nn (c.rt b z)⟩
  · unfold setCell at e1
    by_cases hk : n = k
    · subst hk
      rw [hr] at e2; cases e2
      rw [List.getElem?_set_self (List.getElem?_eq_some_iff.mp e).1] at e1
      cases e1
      exact ⟨vs, upd_same, m.rls r⟩
    · rw [List.getElem?_set_ne hk] at e1
      have hb : b ≠ a := by
        rintro rfl
        exact hk ((List.getElem?_inj (List.getElem?_eq_some_iff.mp hr).1 c.nd).mp (hr.trans e2.symm))
      exact (c.at_ k q b e1 e2).mo m (fun vs _ h => by rw [upd_ne hb]; exact h)
  · unfold setCell at e1
    by_cases hk : n = k
    · subst hk
      rw [hr] at e2; cases e2
      exact hz
    · rw [List.getElem?_set_ne hk] at e1
      exact c.zr k zs b e1 e2
/-- a cell is frozen -/
theorem Mo.freeze {n : Nat} (hr : g.rho[n]? = some a) : Mo g H (g.add a) H where
  fz := fun _ h => .inl h
  fo := fun _ _ h _ => h
  fd := fun _ _ _ h => h
  ft := fun _ _ h _ => h
  fn := fun b h => h.elim .inl fun e => .inr (.inr (by rw [e]; exact List.mem_of_getElem? hr))
  fr := fun _ _ h => h
  fm := fun _ h => .inl h
  fh := fun _ h => h
theorem CS.freeze (c : CS K mg g s H) {n : Nat} {ys : List Vl} (e : s[n]? = some (.lst ys)) (hr : g.rho[n]? = some a) : CS K mg (g.add a) (s.set n .dead) H := by
  refine ⟨by rw [List.length_set]; exact c.len, fun k q b e1 e2 => ?_, c.nd, fun k zs b e1 e2 z => ?_, fun b z => ?_, c.rt⟩
  · by_cases hk : n = k
    · subst hk
      rw [List.getElem?_set_self (List.getElem?_eq_some_iff.mp e).1] at e1
      cases e1
      trivial
    · rw [List.getElem?_set_ne hk] at e1
      exact (c.at_ k q b e1 e2).mo (Mo.freeze hr) (fun vs _ h => h)
  · by_cases hk : n = k
    · subst hk
      rw [List.getElem?_set_self (List.getElem?_eq_some_iff.mp e).1] at e1
      cases e1
    · rw [List.getElem?_set_ne hk] at e1
      rcases z with z | z
      · exact c.zr k zs b e1 e2 z
      · have e2 : g.rho[k]? = some b := e2
        rw [z] at e2
        exact hk ((List.getElem?_inj (List.getElem?_eq_some_iff.mp hr).1 c.nd).mp (hr.trans e2.symm))
  · rcases z with z | z
    · exact c.zt b z
    · rw [z]; exact c.rt a (List.mem_of_getElem? hr)
end
end Sh
/-! Sh3: expressions of the small language are what the text's expressions do. -/
set_option linter.all false
set_option autoImplicit false
set_option maxRecDepth 100000
set_option maxHeartbeats 1000000
namespace Sh
open PySem PySem.Spec PyProof.Rows L2 TL

section
variable {K : PySem.W.Frag} {mg : Str → Option Value} {g : Gh} {H : Hp} {s : Cells} {v : Vl} {u : V}
theorem dz_ints {Z : Addr → Prop} : ∀ ns : List Int, DZs K Z H (ns.map V.int) (ns.map PyData.int)
  | [] => .nil
  | n :: r => .cons (.int n) (dz_ints r)
theorem lstOf_ok (c : CS K mg g s H) (r : RL K mg g H v u) {xs : List Vl} (e : lstOf s v = some xs) : ∃ a vs, u = .ref a ∧ SqL K H a vs ∧ RLs K mg g H xs vs := by
  cases r with
  | p h =>
    cases h with
    | lst h z hs => cases e; exact ⟨_, _, rfl, SqL.of h, RLs.of_dz hs⟩
    | tup h hs => cases e
    | _ => cases e
  | @ref n a h =>
    have e : (match s[n]? with
      | some (.lst xs) => some xs
      | _ => none) = some xs := e
    cases q : s[n]? with
    | none => rw [q] at e; cases e
    | some o =>
      rw [q] at e
      cases o with
      | dead => cases e
      | lst ys =>
        cases e
        obtain ⟨vs, e1, r1⟩ := c.at_ n _ a q h
        exact ⟨a, vs, rfl, SqL.of e1, r1⟩
  | dic h => cases e
  | ty n => cases e
  | scr h => cases e; exact ⟨_, _, rfl, h.sql, RLs.of_dz (dz_ints _)⟩
theorem seqOf_ok (c : CS K mg g s H) (r : RL K mg g H v u) {xs : List Vl} (e : seqOf s v = some xs) : ∃ a vs, u = .ref a ∧ (SqL K H a vs ∨ SqT K H a vs) ∧ RLs K mg g H xs vs := by
  cases r with
  | p h =>
    cases h with
    | tup h hs => cases e; exact ⟨_, _, rfl, .inr h, RLs.of_dz hs⟩
    | lst h z hs => cases e; exact ⟨_, _, rfl, .inl (SqL.of h), RLs.of_dz hs⟩
    | _ => cases e
  | ref h =>
    obtain ⟨a, vs, e1, h1, r1⟩ := lstOf_ok c (.ref h) e
    exact ⟨a, vs, e1, .inl h1, r1⟩
  | dic h => cases e
  | ty n => cases e
  | scr h =>
    obtain ⟨a, vs, e1, h1, r1⟩ := lstOf_ok c (.scr h) e
    exact ⟨a, vs, e1, .inl h1, r1⟩
theorem der_ok (c : CS K mg g s H) (r : RL K mg g H v u) {d : PyData} (e : der s v = some d) : Dp K H u d := by
  cases r with
  | @p d' _ h =>
    have e : (if noD d' = true then some d' else none) = some d := e
    split at e
    · rename_i hn
      cases e
      exact h.dp hn
    · cases e
  | @ref n a h =>
    have e : (match s[n]? with
      | some (.lst xs) => (allP xs).bind fun ds => if noDs ds = true then some (PyData.list ds) else none
      | _ => none) = some d := e
    cases q : s[n]? with
    | none => rw [q] at e; cases e
    | some o =>
      rw [q] at e
      cases o with
      | dead => cases e
      | lst ys =>
        obtain ⟨vs, e1, r1⟩ := c.at_ n _ a q h
        obtain ⟨ds, q2, e3⟩ := Option.bind_eq_some_iff.mp (show ((allP ys).bind fun ds => if noDs ds = true then some (PyData.list ds) else none) = some d from e)
        split at e3
        · rename_i hn
          cases e3
          exact .lst (SqL.of e1) ((allP_dz q2 r1).dp hn)
        · cases e3
  | dic h => cases e
  | ty n => cases e
  | scr h => cases e; exact .lst h.sql (DZs.dp (Z := g.Z) (dz_ints _) (noD_ints _))
theorem DZs.empty {Z : Addr → Prop} {vs : List V} {ds : List PyData} (h : DZs K Z H vs ds) : ds.isEmpty = vs.isEmpty := by
  cases h <;> rfl
theorem RLs.empty {vs : List Vl} {us : List V} (h : RLs K mg g H vs us) : vs.isEmpty = us.isEmpty := by
  cases h <;> rfl
theorem truth_ok (c : CS K mg g s H) (r : RL K mg g H v u) {k : Bool} (e : truth s v = some k) : TruV K u H k := by
  cases r with
  | p h =>
    cases h with
    | non => cases e; exact rfl
    | bl b => cases e; exact rfl
    | int i => cases e; exact rfl
    | str x =>
      have e : (if fits x then some ((x.length : Int) != 0) else none) = some k := e
      split at e
      · rename_i hf
        cases e
        exact ⟨Nat.le_of_ble_eq_true hf, rfl⟩
      · cases e
    | lst h z hs => cases e; exact .inl ⟨_, SqL.of h, by rw [hs.empty]⟩
    | tup h hs => cases e; exact .inr (.inl ⟨_, h, by rw [hs.empty]⟩)
    | emp h => cases e
  | @ref n a h =>
    have e : (match s[n]? with
      | some (.lst xs) => some (!xs.isEmpty)
      | _ => none) = some k := e
    cases q : s[n]? with
    | none => rw [q] at e; cases e
    | some o =>
      rw [q] at e
      cases o with
      | dead => cases e
      | lst ys =>
        cases e
        obtain ⟨vs, e1, r1⟩ := c.at_ n _ a q h
        exact .inl ⟨_, SqL.of e1, by rw [r1.empty]⟩
  | dic h => cases e
  | ty n => cases e
  | scr h => cases e; exact .inl ⟨_, h.sql, by rw [List.isEmpty_map]⟩
end

/-! ### readings -/
def tE (P : Pg) (X : Cx) (e : E) : TE := fun σ H Q => ∃ g sl s r s', CS X.K X.mg g s H ∧ SR X.K X.mg g H sl σ ∧ evE P e sl s = .ok r s' ∧
  ∀ g' v H', Mo g H g' H' → CS X.K X.mg g' s' H' → RL X.K X.mg g' H' r v → Q v H'
def tL (P : Pg) (X : Cx) (e : L) : TA := fun σ H Q => ∃ g sl s r s', CS X.K X.mg g s H ∧ SR X.K X.mg g H sl σ ∧ evL P e sl s = .ok r s' ∧
  ∀ g' v H', Mo g H g' H' → CS X.K X.mg g' s' H' → RLs X.K X.mg g' H' r v → Q v H'
def tT (P : Pg) (X : Cx) (e : E) : TT := fun σ H Q => ∃ g sl s r s', CS X.K X.mg g s H ∧ SR X.K X.mg g H sl σ ∧ evT P e sl s = .ok r s' ∧
  ∀ g' H', Mo g H g' H' → CS X.K X.mg g' s' H' → Q r H'
/-- the promise of the i-th def -/
def spV (P : Pg) (K : PySem.W.Frag) (mg : Str → Option Value) (f : Nat) (np : Nat) : Sp := fun us H Q _ => us.length = np ∧ ∃ g vs s r s', CS K mg g s H ∧ RLs K mg g H vs us ∧ P.call f vs s = .ok r s' ∧
  ∀ g' v H', Mo g H g' H' → CS K mg g' s' H' → RL K mg g' H' r v → Q v H'

def bltNames : List Str := ["len", "abs", "max", "min", "int", "all", "any", "sum", "tuple", "list", "repr", "isinstance", "divmod", "sorted", "set", "str", "bool", "range", "zip", "enumerate", "dict"]
/-- where a def of the text stands -/
structure FnAt (P : Pg) (X : Cx) (f : Nat) (x : Str) (ps : List Str) : Prop where
  ex : ∃ fa fd k, X.mg x = some (.ref fa) ∧ PySem.W.keepIn X.K (.ref fa) = true ∧ Room k X.A ∧ FnG X.prog X.w X.K X.mg X.base CX0 k fa fd ps (spV P X.K X.mg f ps.length) ∧ Binds X.K fd ps [] ∧
    ∀ k0, ps = [k0] → KBinds X.K fd ps [k0] (fun us ws => us ++ ws) (fun vs zs => vs ++ zs)
/-- a constant of the module -/
def GlobIs (X : Cx) (x : Str) (d : Vl) : Prop := ∃ u v, X.mg x = some u ∧ RelV v u ∧ ∀ g H, RL X.K X.mg g H d v
structure Good (P : Pg) (X : Cx) : Prop where
  calm : X.calm = true
  nd : X.N.Nodup
  room : ∃ k, Room k X.A
  gd : X.A.guards = some []
  free : ∀ x ∈ bltNames, X.mg x = none
  gcd : X.mg "gcd" = some (.builtin "math.gcd")
  fns : ∀ (f : Nat) (x : Str) (ps : List Str), P.names[f]? = some (x, ps) → FnAt P X f x ps
  cst : ∀ x v, P.cst x = some v → GlobIs X x v
  dic : ∀ x t, P.dics x = some t → ∃ (a : Addr) (es : Array DictEntry) (n : Nat), X.mg x = some (.ref a) ∧ KDict X.K X.w a es n ∧ ∀ z : Str, (t.lookup z = none ∧ PySem.W.nsIn X.K a z = some none) ∨
    ∃ d u v, t.lookup z = some d ∧ PySem.W.nsIn X.K a z = some (some u) ∧ RelV v u ∧ ∀ Z H, DZ X.K Z H v d

section
variable {P : Pg} {X : Cx} {e1 e2 e3 : Expr} {a b c : E} {pos : Pos}
theorem Good.units (G : Good P X) : X.A.units + 65 < cLine := by
  obtain ⟨k, r⟩ := G.room
  have := r.un
  omega
theorem _root_.L2.PE.imp {e : Expr} {t t' : TE} (h : PE X e t) (i : ∀ σ H Q, t' σ H Q → t σ H Q) : PE X e t' := ⟨fun pins s σ H Q I w => h.run pins s σ H Q I (i σ H Q w)⟩
/-- two in a row -/
theorem two {sl : Sl} {σ : L2.St} {s s1 s2 : Cells} {x y : Vl} {g : Gh} {H : Hp} (cs : CS X.K X.mg g s H) (sr : SR X.K X.mg g H sl σ) (ea : evE P a sl s = .ok x s1) (eb : evE P b sl s1 = .ok y s2) {R : V → V → Hp → Prop}
    (h : ∀ g2 v1 v2 H2, Mo g H g2 H2 → CS X.K X.mg g2 s2 H2 → RL X.K X.mg g2 H2 x v1 → RL X.K X.mg g2 H2 y v2 → R v1 v2 H2) : tE P X a σ H fun v1 H1 => tE P X b σ H1 fun v2 H2 => R v1 v2 H2 :=
  ⟨g, sl, s, x, s1, cs, sr, ea, fun g1 v1 H1 m1 c1 r1 => ⟨g1, sl, s1, y, s2, c1, m1.sr sr, eb, fun g2 v2 H2 m2 c2 r2 => h g2 v1 v2 H2 (m1.trans m2) c2 (m2.rl r1) r2⟩⟩
theorem one_ {sl : Sl} {σ : L2.St} {s s1 : Cells} {x : Vl} {g : Gh} {H : Hp} (cs : CS X.K X.mg g s H) (sr : SR X.K X.mg g H sl σ) (ea : evE P a sl s = .ok x s1) {R : V → Hp → Prop}
    (h : ∀ g1 v1 H1, Mo g H g1 H1 → CS X.K X.mg g1 s1 H1 → RL X.K X.mg g1 H1 x v1 → R v1 H1) : tE P X a σ H R :=
  ⟨g, sl, s, x, s1, cs, sr, ea, h⟩

/-! ### constants, names -/
theorem sE_non {j : Nat} : PE X (.Constant .none j pos) (tE P X .non) := pe_non.imp fun σ H Q ⟨g, sl, s, r, s', cs, sr, e, k⟩ => by
  cases e; exact k g .non H .refl cs (.p .non)
theorem sE_bl {j : Nat} {q : Bool} : PE X (.Constant (.bool q) j pos) (tE P X (.bl q)) := pe_bl.imp fun σ H Q ⟨g, sl, s, r, s', cs, sr, e, k⟩ => by
  cases e; exact k g _ H .refl cs (.p (.bl q))
theorem sE_int {j : Nat} {i : Int} : PE X (.Constant (.int i) j pos) (tE P X (.int i)) := pe_int.imp fun σ H Q ⟨g, sl, s, r, s', cs, sr, e, k⟩ => by
  cases e; exact k g _ H .refl cs (.p (.int i))
theorem sE_str {j : Nat} {x : Str} : PE X (.Constant (.str x) j pos) (tE P X (.str x)) := pe_str.imp fun σ H Q ⟨g, sl, s, r, s', cs, sr, e, k⟩ => by
  cases e; exact k g _ H .refl cs (.p (.str x))
theorem sE_var {i : Nat} {x : Str} (hN : X.N[i]? = some x) (hv : Vis X.env.scope x) (hd : (x == ("__debug__" : Str)) = false) (hcd : (x == ("__classdict__" : Str)) = false) : PE X (.Name x pos) (tE P X (.var i)) :=
  (pe_var hN hv hd hcd).imp fun σ H Q ⟨g, sl, s, r, s', cs, sr, e, k⟩ => by
    have e : (match sl[i]? with | some (some v) => O.ok v s | _ => .bad) = .ok r s' := e
    cases q : sl[i]? with
    | none => rw [q] at e; cases e
    | some o =>
      rw [q] at e
      cases o with
      | none => cases e
      | some v =>
        cases e
        obtain ⟨u, e1, r1⟩ := sr.2 i _ q
        exact ⟨u, e1, k g u H .refl cs r1⟩
theorem sE_glo {x : Str} (G : Good P X) (hg : Gl X x) (hd : (x == ("__debug__" : Str)) = false) : PE X (.Name x pos) (tE P X (.glo x)) := ⟨fun pins st σ H Q I ⟨g, sl, s, r, s', cs, sr, e, k⟩ => by
  have e : (match P.cst x with | some v => O.ok v s | none => .bad) = .ok r s' := e
  cases q : P.cst x with
  | none => rw [q] at e; cases e
  | some d =>
    rw [q] at e
    cases e
    obtain ⟨u, v, hm, rv, q2⟩ := G.cst x _ q
    exact (pe_glob hg hm rv hd).run pins st σ H Q I (k g _ H .refl cs (q2 g H))⟩
theorem sE_tyc {x : Str} {n : String} (hg : Gl X x) (hm : X.mg x = none) (hv : bootBuiltins x = some (.type n)) (hn : x ≠ "__name__") (hd : (x == ("__debug__" : Str)) = false) : PE X (.Name x pos) (tE P X (.tyc x n)) :=
  (pe_bltn (v := .ty n) hg hm hv rfl hn hd).imp fun σ H Q ⟨g, sl, s, r, s', cs, sr, e, k⟩ => by
    cases e; exact k g _ H .refl cs (.ty n)

/-! ### one operand -/
theorem sE_neg (ha : PE X e1 (tE P X a)) : PE X (.UnaryOp .USub e1 pos) (tE P X (.neg a)) :=
  (pe_un un_neg ha).imp fun σ H Q ⟨g, sl, s, r, s', cs, sr, e, k⟩ => by
    obtain ⟨x, s1, ea, e⟩ := O.bind_ok e
    refine one_ cs sr ea fun g1 v1 H1 m1 c1 r1 => ?_
    cases x with
    | p d =>
      cases d with
      | int i =>
        cases e
        cases r1.dz
        exact ⟨i, rfl, k g1 _ H1 m1 c1 (.p (.int _))⟩
      | _ => cases e
    | _ => cases e
theorem sE_not (ha : PE X e1 (tE P X a)) : PE X (.UnaryOp .Not e1 pos) (tE P X (.not a)) :=
  (pe_notT ha).imp fun σ H Q ⟨g, sl, s, r, s', cs, sr, e, k⟩ => by
    obtain ⟨x, s1, ea, e⟩ := O.bind_ok e
    refine one_ cs sr ea fun g1 v1 H1 m1 c1 r1 => ?_
    have e : (match truth s1 x with | some b => O.ok (Vl.p (.bool (!b))) s1 | none => .bad) = .ok r s' := e
    cases q : truth s1 x with
    | none => rw [q] at e; cases e
    | some b =>
      rw [q] at e; cases e
      exact ⟨b, truth_ok c1 r1 q, k g1 _ H1 m1 c1 (.p (.bl _))⟩

/-! ### two operands -/
def opr : BOp → Operator
  | .add => .Add | .sub => .Sub | .mul => .Mult | .fdiv => .FloorDiv | .mod => .Mod | .pow => .Pow
/-- new data at a new place -/
theorem newTup {g g2 : Gh} {H H2 : Hp} {s2 : Cells} {Q : VK} {ds : List PyData} {vs : List V} (m : Mo g H g2 H2) (c2 : CS X.K X.mg g2 s2 H2) (hs : DZs X.K g2.Z H2 vs ds)
    (k : ∀ g' v H', Mo g H g' H' → CS X.K X.mg g' s2 H' → RL X.K X.mg g' H' (.p (.tuple ds)) v → Q v H') : ∀ p, H2 p = none → Q (.ref p) (upd H2 p (.tup vs)) := fun p hp =>
  k g2 _ _ (m.trans (Mo.alloc hp)) (c2.alloc hp) (.p (.tup (SqT.of upd_same) ((Mo.alloc hp).dzs hs)))
theorem newLst {g g2 : Gh} {H H2 : Hp} {s2 : Cells} {Q : VK} {ds : List PyData} {vs : List V} (m : Mo g H g2 H2) (c2 : CS X.K X.mg g2 s2 H2) (hs : DZs X.K g2.Z H2 vs ds)
    (k : ∀ g' v H', Mo g H g' H' → CS X.K X.mg g' s2 H' → RL X.K X.mg g' H' (.p (.list ds)) v → Q v H') : ∀ p, H2 p = none → Q (.ref p) (upd H2 p (.lst vs)) := fun p hp =>
  k (g2.add p) _ _ (m.trans (Mo.allocZ hp)) (c2.allocZ hp) (.p (.lst upd_same (.inr rfl) ((Mo.allocZ hp).dzs hs)))
theorem DZs.rep {K : PySem.W.Frag} {Z : Addr → Prop} {H : Hp} {vs : List V} {ds : List PyData} (h : DZs K Z H vs ds) : ∀ n : Nat, DZs K Z H (List.replicate n vs).flatten (List.replicate n ds).flatten
  | 0 => .nil
  | n + 1 => by
    simp only [List.replicate_succ, List.flatten_cons]
    exact h.append (DZs.rep h n)
theorem foldl_cat (x : List Nat) : ∀ (n : Nat) (acc : List Nat), (List.replicate n x.toArray).foldl (· ++ ·) acc.toArray = (acc ++ (List.replicate n x).flatten).toArray
  | 0, acc => by simp
  | n + 1, acc => by
    rw [List.replicate_succ, List.foldl_cons, List.append_toArray, foldl_cat x n, List.replicate_succ, List.flatten_cons, List.append_assoc]
def rMulS : R2 := fun x y H Q => ∃ z k, x = .str z ∧ y = .int k ∧ 1 ≤ k ∧ k ≤ 1000 ∧ z.length ≤ 1000 ∧ Q (.str ⟨(List.replicate k.toNat z.cps.toList).flatten.toArray⟩) H
theorem len_rep (x : List Nat) : ∀ n : Nat, (List.replicate n x).flatten.length = n * x.length
  | 0 => by simp
  | n + 1 => by
    rw [List.replicate_succ, List.flatten_cons, List.length_append, len_rep x n, Nat.add_mul, Nat.one_mul, Nat.add_comm]
theorem op_mulS : OpR X (binaryOp .Mult) rMulS := by
  intro pins st σ H x y v u Q I rx ry h
  obtain ⟨z, k, rfl, rfl, h1, h2, hz, q⟩ := h
  obtain ⟨t, rfl⟩ := rx
  obtain ⟨t', rfl⟩ := ry
  have hb : (decide (k < -(2 ^ 63 : Int)) || decide (k ≥ 2 ^ 63)) = false := by
    rw [decide_eq_false (by omega), decide_eq_false (by omega)]; rfl
  have ez : (List.replicate k.toNat z.cps).foldl (· ++ ·) #[] = (List.replicate k.toNat z.cps.toList).flatten.toArray := by
    have := foldl_cat z.cps.toList k.toNat []
    rw [List.nil_append] at this
    rw [← this]
  have hk : (k.toNat : Int) = k := Int.toNat_of_nonneg (by omega)
  have hk2 : k.toNat ≤ 1000 := by omega
  have hlen : z.length * k.toNat ≤ 1000000 := Nat.le_trans (Nat.mul_le_mul hz hk2) (by decide)
  have line : sizeLine = 16777216 := rfl
  refine PySem.P.mul_str hb (fun _ _ => ?_) (fun _ _ => ?_) ?_
  · intro hc
    have h3 : (z.length : Int) * k ≤ 1000000 := by
      have h0 : ((z.length * k.toNat : Nat) : Int) ≤ 1000000 := by omega
      rw [Int.natCast_mul, hk] at h0
      exact h0
    have h4 : ((2 : Int) ^ 63 - 1) / k * k > (2 ^ 63 - 1) - k := by
      have := Int.emod_add_mul_ediv ((2 : Int) ^ 63 - 1) k
      have h5 := Int.emod_lt_of_pos ((2 : Int) ^ 63 - 1) (show 0 < k by omega)
      rw [Int.mul_comm] at this
      omega
    have h6 : ((2 : Int) ^ 63 - 1) / k * k ≤ (z.length : Int) * k := Int.mul_le_mul_of_nonneg_right (by omega) (by omega)
    omega
  · unfold Builtin.Str.tooLong
    exact decide_eq_false (by omega)
  · rw [if_neg (by omega)]
    by_cases h0 : (k == 1 || z.length == 0) = true
    · rw [if_pos h0]
      have e : (⟨(List.replicate k.toNat z.cps.toList).flatten.toArray⟩ : Str) = z := by
        refine ext_tl ?_
        show (List.replicate k.toNat z.cps.toList).flatten = z.cps.toList
        rcases Bool.or_eq_true_iff.mp h0 with q1 | q1
        · have : k = 1 := by simpa using q1
          subst this
          show (List.replicate 1 z.cps.toList).flatten = z.cps.toList
          rw [List.replicate_succ, List.flatten_cons, List.replicate_zero, List.flatten_nil, List.append_nil]
        · have q1 : z.length = 0 := by simpa using q1
          have q2 : z.cps.toList = [] := by
            rw [len_tl] at q1
            exact List.eq_nil_of_length_eq_zero q1
          rw [q2]
          exact List.eq_nil_of_length_eq_zero (by rw [len_rep]; rfl)
      rw [e] at q
      exact ⟨.str z, H, I, ⟨t, rfl⟩, q⟩
    · rw [if_neg h0, ez]
      refine ⟨?_, .str _, H, I.tok _, ⟨_, rfl⟩, q⟩
      rw [len_tl]
      show (List.replicate k.toNat z.cps.toList).flatten.length ≤ sizeLine
      rw [len_rep, ← (show z.length = z.cps.toList.length from len_tl z), Nat.mul_comm]
      omega
theorem mapf {α β : Type} {f : α → β} {o : Option α} {b : β} (h : o.map f = some b) : ∃ a, o = some a ∧ f a = b := Option.map_eq_some_iff.mp h
theorem ite_some {α : Type} {c : Bool} {a b : α} (h : (if c = true then some a else none) = some b) : c = true ∧ a = b := by
  cases c with
  | true => exact ⟨rfl, Option.some.inj h⟩
  | false => cases h
theorem and2 {p q : Bool} (h : (p && q) = true) : p = true ∧ q = true := Bool.and_eq_true_iff.mp h
theorem sE_bin {o : BOp} (G : Good P X) (ha : PE X e1 (tE P X a)) (hb : PE X e2 (tE P X b)) : PE X (.BinOp e1 (opr o) e2 pos) (tE P X (.bin o a b)) := ⟨fun pins st σ H Q I ⟨g, sl, s, r, s', cs, sr, e, k⟩ => by
  obtain ⟨x, s1, ea, e⟩ := O.bind_ok e
  obtain ⟨y, s2, eb, e⟩ := O.bind_ok e
  obtain ⟨d, s3, ed, e⟩ := O.bind_ok e
  cases (show O.ok (Vl.p d) s3 = O.ok r s' from e)
  obtain ⟨ed, rfl⟩ := lift_ok ed
  cases x with
  | p dx =>
    cases y with
    | p dy =>
      have ed : binD o dx dy = some d := ed
      cases o with
      | add =>
        cases dx with
        | int i =>
          cases dy with
          | int j =>
            cases ed
            refine (pe_op op_add ha hb).run pins st σ H Q I (two cs sr ea eb fun g2 v1 v2 H2 m c2 r1 r2 => ?_)
            cases r1.dz; cases r2.dz
            exact ⟨i, j, rfl, rfl, k g2 _ H2 m c2 (.p (.int _))⟩
          | _ => cases ed
        | str x =>
          cases dy with
          | str y =>
            obtain ⟨h1, rfl⟩ := ite_some ed
            refine (pe_op op_add_str ha hb).run pins st σ H Q I (two cs sr ea eb fun g2 v1 v2 H2 m c2 r1 r2 => ?_)
            cases r1.dz; cases r2.dz
            exact ⟨x, y, rfl, rfl, Nat.le_of_ble_eq_true h1, k g2 _ H2 m c2 (.p (.str _))⟩
          | _ => cases ed
        | list xs =>
          cases dy with
          | list ys =>
            obtain ⟨h1, rfl⟩ := ite_some ed
            refine (pe_op op_cat ha hb).run pins st σ H Q I (two cs sr ea eb fun g2 v1 v2 H2 m c2 r1 r2 => ?_)
            cases r1.dz with
            | lst e1 z1 s1 =>
              cases r2.dz with
              | lst e2 z2 s2 =>
                exact ⟨_, _, _, _, rfl, rfl, e1, e2, by rw [s1.length, s2.length]; exact Nat.le_of_ble_eq_true h1, newLst m c2 (s1.append s2) k⟩
          | _ => cases ed
        | tuple xs =>
          cases dy with
          | tuple ys =>
            obtain ⟨h1, rfl⟩ := ite_some ed
            refine (pe_op op_catA ha hb).run pins st σ H Q I (two cs sr ea eb fun g2 v1 v2 H2 m c2 r1 r2 => ?_)
            cases r1.dz with
            | tup e1 s1 =>
              cases r2.dz with
              | tup e2 s2 =>
                refine ⟨_, _, _, _, rfl, rfl, e1, e2, by rw [s1.length, s2.length]; exact Nat.le_of_ble_eq_true h1, fun hx => ?_, fun _ hy => ?_, fun _ _ => newTup m c2 (s1.append s2) k⟩
                · subst hx
                  cases s1
                  exact k g2 _ H2 m c2 r2
                · subst hy
                  cases s2
                  rw [List.append_nil] at k
                  exact k g2 _ H2 m c2 r1
          | _ => cases ed
        | _ => cases ed
      | sub =>
        cases dx with
        | int i =>
          cases dy with
          | int j =>
            cases ed
            refine (pe_op op_sub ha hb).run pins st σ H Q I (two cs sr ea eb fun g2 v1 v2 H2 m c2 r1 r2 => ?_)
            cases r1.dz; cases r2.dz
            exact ⟨i, j, rfl, rfl, k g2 _ H2 m c2 (.p (.int _))⟩
          | _ => cases ed
        | _ => cases ed
      | mul =>
        cases dx with
        | int i =>
          cases dy with
          | int j =>
            obtain ⟨h1, rfl⟩ := ite_some ed
            refine (pe_op op_mul ha hb).run pins st σ H Q I (two cs sr ea eb fun g2 v1 v2 H2 m c2 r1 r2 => ?_)
            cases r1.dz; cases r2.dz
            refine ⟨i, j, rfl, rfl, ?_, k g2 _ H2 m c2 (.p (.int _))⟩
            rcases Bool.or_eq_true_iff.mp h1 with q | q
            · obtain ⟨q1, q2⟩ := and2 q
              exact .inl ⟨of_decide_eq_true q1, of_decide_eq_true q2⟩
            · obtain ⟨q1, q2⟩ := and2 q
              exact .inr ⟨of_decide_eq_true q1, of_decide_eq_true q2⟩
          | _ => cases ed
        | str z =>
          cases dy with
          | int j =>
            obtain ⟨h1, rfl⟩ := ite_some ed
            obtain ⟨h1, h4⟩ := and2 h1
            obtain ⟨h2, h3⟩ := and2 h1
            refine (pe_op op_mulS ha hb).run pins st σ H Q I (two cs sr ea eb fun g2 v1 v2 H2 m c2 r1 r2 => ?_)
            cases r1.dz; cases r2.dz
            exact ⟨z, j, rfl, rfl, of_decide_eq_true h2, of_decide_eq_true h3, Nat.le_of_ble_eq_true h4, k g2 _ H2 m c2 (.p (.str _))⟩
          | _ => cases ed
        | list xs =>
          cases dy with
          | int j =>
            obtain ⟨h1, rfl⟩ := ite_some ed
            obtain ⟨h1, h4⟩ := and2 h1
            obtain ⟨h2, h3⟩ := and2 h1
            have h2 := of_decide_eq_true h2
            have h3 := of_decide_eq_true h3
            refine (pe_op op_rep ha hb).run pins st σ H Q I (two cs sr ea eb fun g2 v1 v2 H2 m c2 r1 r2 => ?_)
            cases r2.dz
            cases r1.dz with
            | lst e1 z1 s1 =>
              exact ⟨_, _, _, rfl, rfl, e1, by omega, by omega, by rw [s1.length]; exact Nat.le_of_ble_eq_true h4, newLst m c2 (s1.rep _) k⟩
          | _ => cases ed
        | tuple xs =>
          cases dy with
          | int j =>
            obtain ⟨h1, rfl⟩ := ite_some ed
            obtain ⟨h1, h5⟩ := and2 h1
            obtain ⟨h1, h4⟩ := and2 h1
            obtain ⟨h2, h3⟩ := and2 h1
            have h2 := of_decide_eq_true h2
            have h3 := of_decide_eq_true h3
            refine (pe_op op_repT ha hb).run pins st σ H Q I (two cs sr ea eb fun g2 v1 v2 H2 m c2 r1 r2 => ?_)
            cases r2.dz
            cases r1.dz with
            | tup e1 s1 =>
              refine ⟨_, _, _, rfl, rfl, e1, ?_, h2, h3, by rw [s1.length]; exact Nat.le_of_ble_eq_true h4, newTup m c2 (s1.rep _) k⟩
              intro q
              subst q
              cases s1
              cases h5
          | _ => cases ed
        | _ => cases ed
      | fdiv =>
        cases dx with
        | int i =>
          cases dy with
          | int j =>
            obtain ⟨h1, rfl⟩ := ite_some ed
            obtain ⟨h1, h2⟩ := and2 h1
            refine (pe_op op_fdiv ha hb).run pins st σ H Q I (two cs sr ea eb fun g2 v1 v2 H2 m c2 r1 r2 => ?_)
            cases r1.dz; cases r2.dz
            exact ⟨i, j, rfl, rfl, ⟨of_decide_eq_true h1, of_decide_eq_true h2⟩, k g2 _ H2 m c2 (.p (.int _))⟩
          | _ => cases ed
        | _ => cases ed
      | mod =>
        cases dx with
        | int i =>
          cases dy with
          | int j =>
            obtain ⟨h1, rfl⟩ := ite_some ed
            refine (pe_op op_mod ha hb).run pins st σ H Q I (two cs sr ea eb fun g2 v1 v2 H2 m c2 r1 r2 => ?_)
            cases r1.dz; cases r2.dz
            exact ⟨i, j, rfl, rfl, of_decide_eq_true h1, k g2 _ H2 m c2 (.p (.int _))⟩
          | _ => cases ed
        | _ => cases ed
      | pow =>
        cases dx with
        | int i =>
          cases dy with
          | int j =>
            obtain ⟨h1, rfl⟩ := ite_some ed
            obtain ⟨h1, h3⟩ := and2 h1
            obtain ⟨h1, h2⟩ := and2 h1
            refine (pe_op op_pow ha hb).run pins st σ H Q I (two cs sr ea eb fun g2 v1 v2 H2 m c2 r1 r2 => ?_)
            cases r1.dz; cases r2.dz
            exact ⟨i, j, rfl, rfl, ⟨of_decide_eq_true h1, of_decide_eq_true h2, of_decide_eq_true h3⟩, k g2 _ H2 m c2 (.p (.int _))⟩
          | _ => cases ed
        | _ => cases ed
    | _ => cases ed
  | _ => cases ed⟩
end
end Sh
/-! Sh4: comparisons, truth, displays, subscripts, slices. -/
set_option linter.all false
set_option autoImplicit false
set_option maxRecDepth 100000
set_option maxHeartbeats 1000000
namespace Sh
open PySem PySem.Spec PyProof.Rows L2

def copr : COp → CmpOp
  | .lt => .Lt | .le => .LtE | .gt => .Gt | .ge => .GtE | .eq => .Eq | .ne => .NotEq | .is => .Is | .nis => .IsNot | .isin => .In | .nin => .NotIn
section
variable {K : PySem.W.Frag} {Z : Addr → Prop} {H : Hp}
theorem flat_dz {v : V} {d : PyData} (h : DZ K Z H v d) (f : flatD d = true) : flatV v = true := by
  cases h <;> first | rfl | cases f
theorem eqV_dz {v u : V} {d e : PyData} (h : DZ K Z H v d) (h' : DZ K Z H u e) (f : flatD d = true) (f' : flatD e = true) : eqV v u = PyData.eqv d e := by
  cases h <;> cases h' <;> first | rfl | cases f | cases f' | (simp [eqV, PyData.eqv])
theorem all_flat : ∀ {vs : List V} {ds : List PyData}, DZs K Z H vs ds → ds.all flatD = true → vs.all flatV = true
  | _, _, .nil, _ => rfl
  | _, _, .cons h hs, f => by
    rw [List.all_cons] at f ⊢
    obtain ⟨f1, f2⟩ := and2 f
    rw [flat_dz h f1, all_flat hs f2]; rfl
theorem any_flat {u : V} {e : PyData} (h' : DZ K Z H u e) (f' : flatD e = true) : ∀ {vs : List V} {ds : List PyData}, DZs K Z H vs ds → ds.all flatD = true → inV u vs = ds.any fun z => PyData.eqv z e
  | _, _, .nil, _ => rfl
  | _, _, .cons h hs, f => by
    rw [List.all_cons] at f
    obtain ⟨f1, f2⟩ := and2 f
    have ih := any_flat h' f' hs f2
    unfold inV at ih ⊢
    rw [List.any_cons, List.any_cons, ih, eqV_dz h h' f1 f']
end
section
variable {P : Pg} {X : Cx} {e1 e2 e3 : Expr} {a b c : E} {pos : Pos}
/-- one comparison, whatever stands there -/
def CmpIs (X : Cx) (o : COp) (x y : Vl) (s : Cells) (k : Bool) : Prop := ∃ r : R2, OpR X (compareOp (copr o)) r ∧
  ∀ (g : Gh) (H : Hp) (v1 v2 : V) (Q : VK), CS X.K X.mg g s H → RL X.K X.mg g H x v1 → RL X.K X.mg g H y v2 → Q (.bl k) H → r v1 v2 H Q
theorem cmp_eq (G : Good P X) {s : Cells} {d e : PyData} {k : Bool} {x y : Vl} (hx : der s x = some d) (hy : der s y = some e) (h : eqD d e = some k) : CmpIs X .eq x y s k := by
  have gen : (if (SeqAt.shaped d && SeqAt.shaped e) = true then some (PyData.eqv d e) else none) = some k → CmpIs X .eq x y s k := fun h => by
    obtain ⟨h1, rfl⟩ := ite_some h
    obtain ⟨h1, h2⟩ := and2 h1
    refine ⟨_, op_eqD (by have := G.units; omega), fun g H v1 v2 Q c r1 r2 q => ⟨d, e, der_ok c r1 hx, der_ok c r2 hy, h1, h2, q⟩⟩
  cases d with
  | int i =>
    cases e with
    | int j =>
      cases h
      refine ⟨_, op_eq, fun g H v1 v2 Q c r1 r2 q => ?_⟩
      cases der_ok c r1 hx
      cases der_ok c r2 hy
      exact ⟨rfl, by rw [dec_int]; exact q⟩
    | _ => exact gen h
  | str i =>
    cases e with
    | str j =>
      cases h
      refine ⟨_, op_eq, fun g H v1 v2 Q c r1 r2 q => ?_⟩
      cases der_ok c r1 hx
      cases der_ok c r2 hy
      exact ⟨rfl, by rw [dec_str]; exact q⟩
    | _ => exact gen h
  | _ => exact gen h
theorem cmp_ne (G : Good P X) {s : Cells} {d e : PyData} {k : Bool} {x y : Vl} (hx : der s x = some d) (hy : der s y = some e) (h : eqD d e = some k) : CmpIs X .ne x y s (!k) := by
  have gen : (if (SeqAt.shaped d && SeqAt.shaped e) = true then some (PyData.eqv d e) else none) = some k → CmpIs X .ne x y s (!k) := fun h => by
    obtain ⟨h1, rfl⟩ := ite_some h
    obtain ⟨h1, h2⟩ := and2 h1
    refine ⟨_, op_neD (by have := G.units; omega), fun g H v1 v2 Q c r1 r2 q => ⟨d, e, der_ok c r1 hx, der_ok c r2 hy, h1, h2, q⟩⟩
  cases d with
  | int i =>
    cases e with
    | int j =>
      cases h
      refine ⟨_, op_ne, fun g H v1 v2 Q c r1 r2 q => ?_⟩
      cases der_ok c r1 hx
      cases der_ok c r2 hy
      exact ⟨rfl, by rw [dec_int]; exact q⟩
    | _ => exact gen h
  | str i =>
    cases e with
    | str j =>
      cases h
      refine ⟨_, op_ne, fun g H v1 v2 Q c r1 r2 q => ?_⟩
      cases der_ok c r1 hx
      cases der_ok c r2 hy
      exact ⟨rfl, by rw [dec_str]; exact q⟩
    | _ => exact gen h
  | _ => exact gen h
theorem str_one {x : Str} {c : Nat} (h : x.cps.toList = [c]) : x = ⟨#[c]⟩ := TL.ext_tl h
theorem cmp_in (G : Good P X) {s : Cells} {d e : PyData} {k : Bool} (h : inD d e = some k) : CmpIs X .isin (.p d) (.p e) s k := by
  cases e with
  | str y =>
    cases d with
    | str x =>
      have h : some (inStr x y) = some k := h
      cases h
      unfold inStr
      split
      · rename_i c hc
        refine ⟨_, op_in_sign, fun g H v1 v2 Q cs r1 r2 q => ?_⟩
        cases r1.dz; cases r2.dz
        refine ⟨c, y, by rw [str_one hc], rfl, ?_⟩
        rw [← List.elem_eq_mem]
        exact q
      · refine ⟨_, op_in_str, fun g H v1 v2 Q cs r1 r2 q => ?_⟩
        cases r1.dz; cases r2.dz
        exact ⟨x, y, rfl, rfl, q⟩
    | _ => cases h
  | tuple ds =>
    have h : (if (flatD d && ds.all flatD) = true then some (ds.any fun z => PyData.eqv z d) else none) = some k := by
      cases d <;> exact h
    obtain ⟨h1, rfl⟩ := ite_some h
    obtain ⟨h1, h2⟩ := and2 h1
    refine ⟨_, op_in_seq, fun g H v1 v2 Q cs r1 r2 q => ?_⟩
    have dx := r1.dz
    cases r2.dz with
    | tup e1 s1 =>
      refine ⟨_, _, rfl, .inr e1, flat_dz dx h1, all_flat s1 h2, ?_⟩
      rw [if_neg (by decide), any_flat dx h1 s1 h2]
      exact q
  | list ds =>
    have h : (if (SeqAt.shaped d && SeqAt.shaped (.list ds) && noD d && noDs ds) = true then some (ds.any fun z => PyData.eqv z d) else none) = some k := by
      cases d <;> exact h
    obtain ⟨h1, rfl⟩ := ite_some h
    obtain ⟨h1, h4⟩ := and2 h1
    obtain ⟨h1, h3⟩ := and2 h1
    obtain ⟨h1, h2⟩ := and2 h1
    exact ⟨_, op_inD G.units, fun g H v1 v2 Q cs r1 r2 q => ⟨d, ds, r1.dz.dp h3, r2.dz.dp h4, h1, h2, q⟩⟩
  | _ => cases d <;> cases h
theorem cmp_nin (G : Good P X) {s : Cells} {d e : PyData} {k : Bool} (h : inD d e = some k) : CmpIs X .nin (.p d) (.p e) s (!k) := by
  cases e with
  | str y =>
    cases d with
    | str x =>
      have h : some (inStr x y) = some k := h
      cases h
      unfold inStr
      split
      · rename_i c hc
        refine ⟨_, op_notIn_sign, fun g H v1 v2 Q cs r1 r2 q => ?_⟩
        cases r1.dz; cases r2.dz
        refine ⟨c, y, by rw [str_one hc], rfl, ?_⟩
        rw [← List.elem_eq_mem]
        exact q
      · refine ⟨_, op_notin_str, fun g H v1 v2 Q cs r1 r2 q => ?_⟩
        cases r1.dz; cases r2.dz
        exact ⟨x, y, rfl, rfl, q⟩
    | _ => cases h
  | tuple ds =>
    have h : (if (flatD d && ds.all flatD) = true then some (ds.any fun z => PyData.eqv z d) else none) = some k := by
      cases d <;> exact h
    obtain ⟨h1, rfl⟩ := ite_some h
    obtain ⟨h1, h2⟩ := and2 h1
    refine ⟨_, op_notIn_seq, fun g H v1 v2 Q cs r1 r2 q => ?_⟩
    have dx := r1.dz
    cases r2.dz with
    | tup e1 s1 =>
      refine ⟨_, _, rfl, .inr e1, flat_dz dx h1, all_flat s1 h2, ?_⟩
      rw [if_pos rfl, any_flat dx h1 s1 h2]
      exact q
  | list ds =>
    have h : (if (SeqAt.shaped d && SeqAt.shaped (.list ds) && noD d && noDs ds) = true then some (ds.any fun z => PyData.eqv z d) else none) = some k := by
      cases d <;> exact h
    obtain ⟨h1, rfl⟩ := ite_some h
    obtain ⟨h1, h4⟩ := and2 h1
    obtain ⟨h1, h3⟩ := and2 h1
    obtain ⟨h1, h2⟩ := and2 h1
    exact ⟨_, op_notInD G.units, fun g H v1 v2 Q cs r1 r2 q => ⟨d, ds, r1.dz.dp h3, r2.dz.dp h4, h1, h2, q⟩⟩
  | _ => cases d <;> cases h
theorem cmp_is {s : Cells} {d e : PyData} {k : Bool} (h : isD d e = some k) : CmpIs X .is (.p d) (.p e) s k := by
  cases e with
  | none =>
    refine ⟨_, op_isN, fun g H v1 v2 Q cs r1 r2 q => ?_⟩
    cases r2.dz
    refine ⟨rfl, ?_⟩
    cases r1.dz <;> cases h <;> exact q
  | bool y =>
    cases d with
    | bool x =>
      cases h
      refine ⟨_, op_isBl, fun g H v1 v2 Q cs r1 r2 q => ?_⟩
      cases r1.dz; cases r2.dz
      refine ⟨x, y, rfl, rfl, ?_⟩
      cases x <;> cases y <;> exact q
    | _ => cases h
  | _ => cases d <;> cases h
theorem cmp_nis {s : Cells} {d e : PyData} {k : Bool} (h : isD d e = some k) : CmpIs X .nis (.p d) (.p e) s (!k) := by
  cases e with
  | none =>
    refine ⟨_, op_notN, fun g H v1 v2 Q cs r1 r2 q => ?_⟩
    cases r2.dz
    refine ⟨rfl, ?_⟩
    cases r1.dz <;> cases h <;> exact q
  | bool y =>
    cases d with
    | bool x =>
      cases h
      refine ⟨_, op_notBl, fun g H v1 v2 Q cs r1 r2 q => ?_⟩
      cases r1.dz; cases r2.dz
      refine ⟨x, y, rfl, rfl, ?_⟩
      cases x <;> cases y <;> exact q
    | _ => cases h
  | _ => cases d <;> cases h
theorem op_never {f : Value → Value → Sem Value} : OpR X f (fun _ _ _ _ => False) := fun _ _ _ _ _ _ _ _ _ _ _ _ h => h.elim
theorem isSome_of {α : Type} {o : Option α} {u : α} (h : o = some u) : o.isSome = true := by rw [h]; rfl
theorem cmpV_ok (G : Good P X) {o : COp} {x y : Vl} {s : Cells} {k : Bool} (h : cmpV P o x y s = some k) : CmpIs X o x y s k := by
  cases o with
  | lt =>
    cases x with
    | p dx =>
      cases y with
      | p dy =>
        cases dx with
        | int i =>
          cases dy with
          | int j =>
            cases h
            exact ⟨_, op_lt, fun g H v1 v2 Q c r1 r2 q => by cases r1.dz; cases r2.dz; exact ⟨i, j, rfl, rfl, q⟩⟩
          | _ => cases h
        | _ => cases h
      | _ => cases dx <;> cases h
    | _ => cases h
  | le =>
    cases x with
    | p dx =>
      cases y with
      | p dy =>
        cases dx with
        | int i =>
          cases dy with
          | int j =>
            cases h
            exact ⟨_, op_le, fun g H v1 v2 Q c r1 r2 q => by cases r1.dz; cases r2.dz; exact ⟨i, j, rfl, rfl, q⟩⟩
          | _ => cases h
        | _ => cases h
      | _ => cases dx <;> cases h
    | _ => cases h
  | gt =>
    cases x with
    | p dx =>
      cases y with
      | p dy =>
        cases dx with
        | int i =>
          cases dy with
          | int j =>
            cases h
            exact ⟨_, op_gt, fun g H v1 v2 Q c r1 r2 q => by cases r1.dz; cases r2.dz; exact ⟨i, j, rfl, rfl, q⟩⟩
          | _ => cases h
        | _ => cases h
      | _ => cases dx <;> cases h
    | _ => cases h
  | ge =>
    cases x with
    | p dx =>
      cases y with
      | p dy =>
        cases dx with
        | int i =>
          cases dy with
          | int j =>
            cases h
            exact ⟨_, op_ge, fun g H v1 v2 Q c r1 r2 q => by cases r1.dz; cases r2.dz; exact ⟨i, j, rfl, rfl, q⟩⟩
          | _ => cases h
        | _ => cases h
      | _ => cases dx <;> cases h
    | _ => cases h
  | eq =>
    have h : (match der s x, der s y with | some d, some e => eqD d e | _, _ => none) = some k := h
    cases hx : der s x with
    | none => rw [hx] at h; cases h
    | some d =>
      cases hy : der s y with
      | none => rw [hx, hy] at h; cases h
      | some e =>
        rw [hx, hy] at h
        exact cmp_eq G hx hy h
  | ne =>
    have h : (match der s x, der s y with | some d, some e => (eqD d e).map (!·) | _, _ => none) = some k := h
    cases hx : der s x with
    | none => rw [hx] at h; cases h
    | some d =>
      cases hy : der s y with
      | none => rw [hx, hy] at h; cases h
      | some e =>
        rw [hx, hy] at h
        obtain ⟨k', h', rfl⟩ := mapf (show (eqD d e).map (!·) = some k from h)
        exact cmp_ne G hx hy h'
  | is =>
    cases x with
    | p dx =>
      cases y with
      | p dy => exact cmp_is h
      | _ => cases h
    | _ => cases h
  | nis =>
    cases x with
    | p dx =>
      cases y with
      | p dy =>
        obtain ⟨k', h', rfl⟩ := mapf (show (isD dx dy).map (!·) = some k from h)
        exact cmp_nis h'
      | _ => cases h
    | _ => cases h
  | isin =>
    cases x with
    | p dx =>
      cases y with
      | p dy => exact cmp_in G (by cases dx <;> exact h)
      | dic gx =>
        cases dx with
        | str z =>
          obtain ⟨t, ht, rfl⟩ := mapf (show (P.dics gx).map (fun t => (t.lookup z).isSome) = some k from h)
          obtain ⟨a, es, n, hm, D, hz⟩ := G.dic gx t ht
          refine ⟨_, op_in_kd D, fun g H v1 v2 Q c r1 r2 q => ?_⟩
          cases r1.dz
          cases r2 with
          | dic hm' =>
            rw [hm] at hm'; cases hm'
            rcases hz z with ⟨e1, e2⟩ | ⟨d, u, v, e1, e2, _⟩
            · rw [e1] at q
              exact ⟨z, none, rfl, rfl, e2, q⟩
            · rw [e1] at q
              exact ⟨z, some u, rfl, rfl, e2, q⟩
        | _ => cases h
      | _ => cases dx <;> cases h
    | _ => cases h
  | nin =>
    cases x with
    | p dx =>
      cases y with
      | p dy =>
        obtain ⟨k', h', rfl⟩ := mapf (show (inD dx dy).map (!·) = some k by cases dx <;> exact h)
        exact cmp_nin G h'
      | dic gx =>
        cases dx with
        | str z =>
          obtain ⟨t, ht, rfl⟩ := mapf (show (P.dics gx).map (fun t => !(t.lookup z).isSome) = some k from h)
          obtain ⟨a, es, n, hm, D, hz⟩ := G.dic gx t ht
          refine ⟨_, op_notIn_kd D, fun g H v1 v2 Q c r1 r2 q => ?_⟩
          cases r1.dz
          cases r2 with
          | dic hm' =>
            rw [hm] at hm'; cases hm'
            rcases hz z with ⟨e1, e2⟩ | ⟨d, u, v, e1, e2, _⟩
            · rw [e1] at q
              exact ⟨z, none, rfl, rfl, e2, q⟩
            · rw [e1] at q
              exact ⟨z, some u, rfl, rfl, e2, q⟩
        | _ => cases h
      | _ => cases dx <;> cases h
    | _ => cases h
theorem sE_cmp {o : COp} (G : Good P X) (ha : PE X e1 (tE P X a)) (hb : PE X e2 (tE P X b)) (hm : behindInMarks (copr o) e2 = false) : PE X (.Compare e1 [copr o] [e2] pos) (tE P X (.cmp o a b)) := ⟨fun pins st σ H Q I ⟨g, sl, s, r, s', cs, sr, e, k⟩ => by
  obtain ⟨x, s1, ea, e⟩ := O.bind_ok e
  obtain ⟨y, s2, eb, e⟩ := O.bind_ok e
  obtain ⟨d, s3, ed, e⟩ := O.bind_ok e
  cases (show O.ok (Vl.p (.bool d)) s3 = O.ok r s' from e)
  obtain ⟨ed, rfl⟩ := lift_ok ed
  obtain ⟨rr, ho, hr⟩ := cmpV_ok G ed
  exact (pe_cmpR ho ha hb hm).run pins st σ H Q I (two cs sr ea eb fun g2 v1 v2 H2 m c2 r1 r2 => hr g2 H2 v1 v2 Q c2 r1 r2 (k g2 _ H2 m c2 (.p (.bl _))))⟩
theorem sE_chain {o o' : COp} (G : Good P X) (ha : PE X e1 (tE P X a)) (hb : PE X e2 (tE P X b)) (hc : PE X e3 (tE P X c)) (hm : lastMarks [copr o, copr o'] [e2, e3] = false) :
    PE X (.Compare e1 [copr o, copr o'] [e2, e3] pos) (tE P X (.chain o o' a b c)) := ⟨fun pins st σ H Q I ⟨g, sl, s, r, s', cs, sr, e, k⟩ => by
  obtain ⟨x, s1, ea, e⟩ := O.bind_ok e
  obtain ⟨y, s2, eb, e⟩ := O.bind_ok e
  obtain ⟨d, s3, ed, e⟩ := O.bind_ok e
  obtain ⟨ed, rfl⟩ := lift_ok ed
  obtain ⟨rr, ho, hr⟩ := cmpV_ok G ed
  cases d with
  | true =>
    obtain ⟨z, s4, ec, e⟩ := O.bind_ok (show ((evE P c sl s3).bind fun z s => (lift (cmpV P o' y z s) s).bind fun k s => O.ok (Vl.p (.bool k)) s) = O.ok r s' from e)
    obtain ⟨d2, s5, ed2, e⟩ := O.bind_ok e
    cases (show O.ok (Vl.p (.bool d2)) s5 = O.ok r s' from e)
    obtain ⟨ed2, rfl⟩ := lift_ok ed2
    obtain ⟨rr2, ho2, hr2⟩ := cmpV_ok G ed2
    refine (pe_chain ho ho2 ha hb hc hm).run pins st σ H Q I (two cs sr ea eb fun g2 v1 v2 H2 m c2 r1 r2 => hr g2 H2 v1 v2 _ c2 r1 r2 ⟨true, rfl, ?_⟩)
    rw [if_pos rfl]
    exact one_ c2 (m.sr sr) ec fun g3 v3 H3 m3 c3 r3 => hr2 g3 H3 v2 v3 _ c3 (m3.rl r2) r3 (k g3 _ H3 (m.trans m3) c3 (.p (.bl _)))
  | false =>
    cases (show O.ok (Vl.p (.bool false)) s3 = O.ok r s' from e)
    refine (pe_chain ho (op_never (f := compareOp (copr o'))) ha hb hc hm).run pins st σ H Q I (two cs sr ea eb fun g2 v1 v2 H2 m c2 r1 r2 => hr g2 H2 v1 v2 _ c2 r1 r2 ⟨false, rfl, ?_⟩)
    rw [if_neg (by decide)]
    exact k g2 _ H2 m c2 (.p (.bl _))⟩
end
end Sh
/-! Sh5: tests, displays, subscripts, slices, calls of defs. -/
set_option linter.all false
set_option autoImplicit false
set_option maxRecDepth 100000
set_option maxHeartbeats 1000000
namespace Sh
open PySem PySem.Spec PyProof.Rows L2
section
variable {P : Pg} {X : Cx} {e1 e2 e3 : Expr} {a b c : E} {pos : Pos} {es : List Expr} {l : L}
theorem _root_.L2.PT.imp {e : Expr} {t t' : TT} (h : PT X e t) (i : ∀ σ H Q, t' σ H Q → t σ H Q) : PT X e t' := ⟨fun pins s σ H Q I w => h.run pins s σ H Q I (i σ H Q w)⟩
theorem _root_.L2.PW.imp {e : Expr} {t t' : TT} (h : PW X e t) (i : ∀ σ H Q, t' σ H Q → t σ H Q) : PW X e t' := ⟨fun wh pins s σ H Q I w => h.run wh pins s σ H Q I (i σ H Q w)⟩
theorem ok_inj {α : Type} {x y : α} {s t : Cells} (h : O.ok x s = O.ok y t) : x = y ∧ s = t := by
  cases h
  exact ⟨rfl, rfl⟩
theorem evT_ok {sl : Sl} {s s' : Cells} {k : Bool} (e : evT P a sl s = .ok k s') : ∃ x, evE P a sl s = .ok x s' ∧ truth s' x = some k := by
  obtain ⟨x, s1, ea, e⟩ := O.bind_ok e
  obtain ⟨e, rfl⟩ := lift_ok e
  exact ⟨x, ea, e⟩
/-- a test of any plain form -/
theorem sT_plain (ha : PE X e1 (tE P X a)) (he : ∀ whole, isTrue e1 X.env whole = (do let v ← whole; standAt e1.pos; holding [v] (truthy v))) : PT X e1 (tT P X a) :=
  (pt_truth ha he).imp fun σ H Q ⟨g, sl, s, r, s', cs, sr, e, k⟩ => by
    obtain ⟨x, ea, et⟩ := evT_ok e
    exact one_ cs sr ea fun g1 v1 H1 m1 c1 r1 => ⟨r, truth_ok c1 r1 et, k g1 H1 m1 c1⟩
theorem truth_bool {s : Cells} {b k : Bool} (h : truth s (.p (.bool b)) = some k) : b = k := Option.some.inj h
theorem sT_not (ha : PT X e1 (tT P X a)) : PT X (.UnaryOp .Not e1 pos) (tT P X (.not a)) :=
  (pt_not ha).imp fun σ H Q ⟨g, sl, s, r, s', cs, sr, e, k⟩ => by
    obtain ⟨x, ea, et⟩ := evT_ok e
    obtain ⟨y, s1, eb, e2⟩ := O.bind_ok ea
    have e3 : (match truth s1 y with | some b => O.ok (Vl.p (.bool (!b))) s1 | none => .bad) = .ok x s' := e2
    cases q : truth s1 y with
    | none => rw [q] at e3; cases e3
    | some b =>
      rw [q] at e3
      obtain ⟨rfl, rfl⟩ := ok_inj e3
      cases truth_bool et
      refine ⟨g, sl, s, b, s1, cs, sr, ?_, fun g1 H1 m1 c1 => k g1 H1 m1 c1⟩
      unfold evT
      rw [eb]
      show lift (truth s1 y) s1 = _
      rw [q]; rfl
theorem evT_of {sl : Sl} {s s1 : Cells} {y : Vl} {b : Bool} (eb : evE P a sl s = .ok y s1) (q : truth s1 y = some b) : evT P a sl s = .ok b s1 := by
  unfold evT
  rw [eb]
  show lift (truth s1 y) s1 = _
  rw [q]; rfl
theorem sW_one {op : BoolOp} (ha : PT X e1 (tT P X a)) : PW X (.BoolOp op [e1] pos) (tT P X (.one a)) := by
  cases op with
  | And => exact pw_and1 ha
  | Or => exact pw_or1 ha
def bopr (isAnd : Bool) : BoolOp := match isAnd with | true => .And | false => .Or
/-- the two ways through a and b, a or b -/
theorem bool_ways {isAnd : Bool} {sl : Sl} {s s' : Cells} {r : Vl} (e : evE P (.bool isAnd a b) sl s = .ok r s') : ∃ x s1 k, evE P a sl s = .ok x s1 ∧ truth s1 x = some k ∧ ((k = isAnd ∧ evE P b sl s1 = .ok r s') ∨ (k = (!isAnd) ∧ r = x ∧ s' = s1)) := by
  obtain ⟨x, s1, ea, e2⟩ := O.bind_ok e
  obtain ⟨k, s2, ek, e3⟩ := O.bind_ok e2
  obtain ⟨ek, es⟩ := lift_ok ek
  rw [es] at e3
  refine ⟨x, s1, k, ea, ek, ?_⟩
  have e : (match Bool.xor k isAnd with | false => evE P b sl s1 | true => .ok x s1) = .ok r s' := e3
  cases k <;> cases isAnd
  · exact .inl ⟨rfl, e⟩
  · obtain ⟨q1, q2⟩ := ok_inj e; exact .inr ⟨rfl, q1.symm, q2.symm⟩
  · obtain ⟨q1, q2⟩ := ok_inj e; exact .inr ⟨rfl, q1.symm, q2.symm⟩
  · exact .inl ⟨rfl, e⟩
theorem sW_bool {isAnd : Bool} {rest : List Expr} (ha : PT X e1 (tT P X a)) (hb : PW X (.BoolOp (bopr isAnd) (e2 :: rest) pos) (tT P X b)) : PW X (.BoolOp (bopr isAnd) (e1 :: e2 :: rest) pos) (tT P X (.bool isAnd a b)) := by
  have key : ∀ (σ : L2.St) (H : Hp) (Q : Bool → Hp → Prop), tT P X (.bool isAnd a b) σ H Q → tT P X a σ H fun c H1 => if c = isAnd then tT P X b σ H1 Q else Q c H1 := fun σ H Q ⟨g, sl, s, r, s', cs, sr, e, k⟩ => by
    obtain ⟨y, e, et⟩ := evT_ok e
    obtain ⟨x, s1, q, ea, eq, w⟩ := bool_ways e
    refine ⟨g, sl, s, q, s1, cs, sr, evT_of ea eq, fun g1 H1 m1 c1 => ?_⟩
    rcases w with ⟨rfl, eb⟩ | ⟨rfl, rfl, rfl⟩
    · rw [if_pos rfl]
      exact ⟨g1, sl, s1, r, s', c1, m1.sr sr, evT_of eb et, fun g2 H2 m2 c2 => k g2 H2 (m1.trans m2) c2⟩
    · rw [if_neg (by cases isAnd <;> decide)]
      rw [eq] at et
      cases et
      exact k g1 H1 m1 c1
  cases isAnd with
  | true =>
    refine (pw_and ha hb).imp fun σ H Q h => ?_
    obtain ⟨g, sl, s, r, s', cs, sr, e, k⟩ := key σ H Q h
    refine ⟨g, sl, s, r, s', cs, sr, e, fun g1 H1 m1 c1 => ?_⟩
    have := k g1 H1 m1 c1
    cases r with
    | true => exact this
    | false => exact this
  | false =>
    refine (pw_or ha hb).imp fun σ H Q h => ?_
    obtain ⟨g, sl, s, r, s', cs, sr, e, k⟩ := key σ H Q h
    refine ⟨g, sl, s, r, s', cs, sr, e, fun g1 H1 m1 c1 => ?_⟩
    have := k g1 H1 m1 c1
    cases r with
    | true => exact this
    | false => exact this
theorem sE_one {op : BoolOp} (ha : PE X e1 (tE P X a)) : PE X (.BoolOp op [e1] pos) (tE P X (.one a)) := pe_one ha
theorem sE_bool {isAnd : Bool} {rest : List Expr} (ha : PE X e1 (tE P X a)) (hb : PE X (.BoolOp (bopr isAnd) (e2 :: rest) pos) (tE P X b)) : PE X (.BoolOp (bopr isAnd) (e1 :: e2 :: rest) pos) (tE P X (.bool isAnd a b)) := by
  have key : ∀ (σ : L2.St) (H : Hp) (Q : VK), tE P X (.bool isAnd a b) σ H Q → tE P X a σ H fun x H1 => ∃ k, TruV X.K x H1 k ∧ if k = isAnd then tE P X b σ H1 Q else Q x H1 := fun σ H Q ⟨g, sl, s, r, s', cs, sr, e, k⟩ => by
    obtain ⟨x, s1, q, ea, eq, w⟩ := bool_ways e
    refine one_ cs sr ea fun g1 v1 H1 m1 c1 r1 => ⟨q, truth_ok c1 r1 eq, ?_⟩
    rcases w with ⟨rfl, eb⟩ | ⟨rfl, rfl, rfl⟩
    · rw [if_pos rfl]
      exact ⟨g1, sl, s1, r, s', c1, m1.sr sr, eb, fun g2 v2 H2 m2 c2 r2 => k g2 v2 H2 (m1.trans m2) c2 r2⟩
    · rw [if_neg (by cases isAnd <;> decide)]
      exact k g1 v1 H1 m1 c1 r1
  cases isAnd with
  | true => exact (pe_andT ha hb).imp key
  | false =>
    refine (pe_orT ha hb).imp fun σ H Q h => ?_
    obtain ⟨g, sl, s, r, s', cs, sr, e, k⟩ := key σ H Q h
    refine ⟨g, sl, s, r, s', cs, sr, e, fun g1 v1 H1 m1 c1 r1 => ?_⟩
    obtain ⟨q, tq, w⟩ := k g1 v1 H1 m1 c1 r1
    refine ⟨q, tq, ?_⟩
    cases q with
    | true => exact w
    | false => exact w
theorem ife_ways {sl : Sl} {s s' : Cells} {r : Vl} (e : evE P (.ife c a b) sl s = .ok r s') : ∃ s1 k, evT P c sl s = .ok k s1 ∧ (match k with | true => evE P a sl s1 | false => evE P b sl s1) = .ok r s' := by
  obtain ⟨x, s1, ea, e2⟩ := O.bind_ok e
  obtain ⟨k, s2, ek, e3⟩ := O.bind_ok e2
  obtain ⟨ek, es⟩ := lift_ok ek
  rw [es] at e3
  exact ⟨s1, k, evT_of ea ek, e3⟩
theorem sE_ife (hc : PT X e1 (tT P X c)) (ha : PE X e2 (tE P X a)) (hb : PE X e3 (tE P X b)) : PE X (.IfExp e1 e2 e3 pos) (tE P X (.ife c a b)) :=
  (pe_ifExp hc ha hb).imp fun σ H Q ⟨g, sl, s, r, s', cs, sr, e, k⟩ => by
    obtain ⟨s1, q, ec, e⟩ := ife_ways e
    refine ⟨g, sl, s, q, s1, cs, sr, ec, fun g1 H1 m1 c1 => ?_⟩
    cases q with
    | true => exact ⟨g1, sl, s1, r, s', c1, m1.sr sr, e, fun g2 v2 H2 m2 c2 r2 => k g2 v2 H2 (m1.trans m2) c2 r2⟩
    | false => exact ⟨g1, sl, s1, r, s', c1, m1.sr sr, e, fun g2 v2 H2 m2 c2 r2 => k g2 v2 H2 (m1.trans m2) c2 r2⟩
theorem sT_ife (hc : PT X e1 (tT P X c)) (ha : PT X e2 (tT P X a)) (hb : PT X e3 (tT P X b)) : PT X (.IfExp e1 e2 e3 pos) (tT P X (.ife c a b)) := ⟨fun pins st σ H Q I ⟨g, sl, s, r, s', cs, sr, e, k⟩ => by
  obtain ⟨x, e, et⟩ := evT_ok e
  obtain ⟨s1, q, ec, e⟩ := ife_ways e
  have hc' : tT P X c σ H fun d H1 => d = q ∧ ∃ g1, Mo g H g1 H1 ∧ CS X.K X.mg g1 s1 H1 := ⟨g, sl, s, q, s1, cs, sr, ec, fun g1 H1 m1 c1 => ⟨rfl, g1, m1, c1⟩⟩
  refine isTrue_IfExp (thn (hc.run pins st σ H _ I hc') fun d s2 ⟨H1, I1, hd, g1, m1, c1⟩ => ?_)
  subst hd
  cases d with
  | true => exact ha.run pins s2 σ H1 Q I1 ⟨g1, sl, s1, r, s', c1, m1.sr sr, evT_of e et, fun g2 H2 m2 c2 => k g2 H2 (m1.trans m2) c2⟩
  | false => exact hb.run pins s2 σ H1 Q I1 ⟨g1, sl, s1, r, s', c1, m1.sr sr, evT_of e et, fun g2 H2 m2 c2 => k g2 H2 (m1.trans m2) c2⟩⟩

/-! ### argument lists -/
theorem sL_nil : PA X [] (tL P X .nil) := ⟨fun p pins st σ H Q I ⟨g, sl, s, r, s', cs, sr, e, k⟩ => by
  cases e
  exact pa_nil.run p pins st σ H Q I (k g [] H .refl cs .nil)⟩
theorem sL_cons (ha : PE X e1 (tE P X a)) (hl : PA X es (tL P X l)) (hs : starEach (e1 :: es) X.env = (false, eval e1 X.env) :: starEach es X.env) : PA X (e1 :: es) (tL P X (.cons a l)) := ⟨fun p pins st σ H Q I ⟨g, sl, s, r, s', cs, sr, e, k⟩ => by
  obtain ⟨x, s1, ea, e2⟩ := O.bind_ok e
  obtain ⟨xs, s2, el, e3⟩ := O.bind_ok e2
  obtain ⟨rfl, rfl⟩ := ok_inj (show O.ok (x :: xs) s2 = O.ok r s' from e3)
  exact (pa_cons ha hl hs).run p pins st σ H Q I (one_ cs sr ea fun g1 v1 H1 m1 c1 r1 => ⟨g1, sl, s1, xs, s2, c1, m1.sr sr, el, fun g2 vs H2 m2 c2 r2 => k g2 _ H2 (m1.trans m2) c2 (.cons (m2.rl r1) r2)⟩)⟩

/-! ### displays -/
theorem sz_of {n m : Nat} (h : n = m) (h2 : m ≤ sizeLine) : n ≤ sizeLine := by rw [h]; exact h2
def lenL : L → Nat
  | .nil => 0
  | .cons _ l => lenL l + 1
theorem evL_len {sl : Sl} : ∀ {l : L} {s s' : Cells} {vs : List Vl}, evL P l sl s = .ok vs s' → vs.length = lenL l
  | .nil, s, s', vs, e => by
    cases e; rfl
  | .cons a l, s, s', vs, e => by
    obtain ⟨x, s1, ea, e2⟩ := O.bind_ok e
    obtain ⟨xs, s2, el, e3⟩ := O.bind_ok e2
    obtain ⟨rfl, rfl⟩ := ok_inj (show O.ok (x :: xs) s2 = O.ok vs s' from e3)
    show xs.length + 1 = lenL l + 1
    rw [evL_len el]
theorem sE_tup {k0 : Nat} (hl : PA X es (tL P X l)) (hz : Nat.ble (lenL l) 10000 = true) : PE X (.Tuple es k0 pos) (tE P X (.tup l)) :=
  (pe_tup hl).imp fun σ H Q ⟨g, sl, s, r, s', cs, sr, e, k⟩ => by
    obtain ⟨vs, s1, el, e2⟩ := O.bind_ok e
    obtain ⟨ds, s2, ed0, e3⟩ := O.bind_ok e2
    obtain ⟨rfl, rfl⟩ := ok_inj (show O.ok (Vl.p (.tuple ds)) s2 = O.ok r s' from e3)
    obtain ⟨ed, eq⟩ := lift_ok ed0
    subst eq
    refine ⟨g, sl, s, vs, _, cs, sr, el, fun g1 us H1 m1 c1 r1 => ⟨?_, newTup m1 c1 (allP_dz ed r1) k⟩⟩
    rw [← r1.length, evL_len el]
    exact Nat.le_trans (Nat.le_of_ble_eq_true hz) (by decide)
theorem sE_lst (hl : PA X es (tL P X l)) (hz : Nat.ble (lenL l) 10000 = true) : PE X (.List es pos) (tE P X (.lst l)) :=
  (pe_lst hl).imp fun σ H Q ⟨g, sl, s, r, s', cs, sr, e, k⟩ => by
    obtain ⟨vs, s1, el, e2⟩ := O.bind_ok e
    obtain ⟨ds, s2, ed0, e3⟩ := O.bind_ok e2
    obtain ⟨rfl, rfl⟩ := ok_inj (show O.ok (Vl.p (.list ds)) s2 = O.ok r s' from e3)
    obtain ⟨ed, eq⟩ := lift_ok ed0
    subst eq
    refine ⟨g, sl, s, vs, _, cs, sr, el, fun g1 us H1 m1 c1 r1 => ⟨?_, newLst m1 c1 (allP_dz ed r1) k⟩⟩
    rw [← r1.length, evL_len el]
    exact Nat.le_trans (Nat.le_of_ble_eq_true hz) (by decide)
theorem sE_cell (hl : PA X es (tL P X l)) (hz : Nat.ble (lenL l) 10000 = true) : PE X (.List es pos) (tE P X (.cell l)) :=
  (pe_lst hl).imp fun σ H Q ⟨g, sl, s, r, s', cs, sr, e, k⟩ => by
    obtain ⟨vs, s1, el, e2⟩ := O.bind_ok e
    obtain ⟨rfl, rfl⟩ := ok_inj (show O.ok (Vl.ref s1.length) (s1 ++ [.lst vs]) = O.ok r s' from e2)
    refine ⟨g, sl, s, vs, _, cs, sr, el, fun g1 us H1 m1 c1 r1 => ⟨?_, fun p hp => ?_⟩⟩
    · rw [← r1.length, evL_len el]
      exact Nat.le_trans (Nat.le_of_ble_eq_true hz) (by decide)
    · refine k (g1.push p) _ _ (m1.trans (Mo.allocC hp)) (c1.allocC hp r1) (.ref ?_)
      show (g1.rho ++ [p])[s1.length]? = some p
      rw [c1.len, List.getElem?_append_right (Nat.le_refl _), Nat.sub_self]
      rfl
theorem atI_rls {K : PySem.W.Frag} {mg : Str → Option Value} {g : Gh} {H : Hp} {xs : List Vl} {vs : List V} {i : Int} {v : Vl} (r : RLs K mg g H xs vs) (h : atI xs i = some v) : ∃ u, atI vs i = some u ∧ RL K mg g H v u := by
  unfold atI at h ⊢
  rw [← r.length]
  cases q : ixN xs.length i with
  | none => rw [q] at h; cases h
  | some j =>
    rw [q] at h
    exact r.get h
theorem sE_ix (G : Good P X) (ha : PE X e1 (tE P X a)) (hb : PE X e2 (tE P X b)) (hs : PlainIx e2) : PE X (.Subscript e1 e2 pos) (tE P X (.ix a b)) := ⟨fun pins st σ H Q I ⟨g, sl, s, r, s', cs, sr, e, k⟩ => by
  obtain ⟨x, s1, ea, q2⟩ := O.bind_ok e
  obtain ⟨y, s2, eb, q3⟩ := O.bind_ok q2
  obtain ⟨ed, eq⟩ := lift_ok q3
  subst eq
  have seq : ∀ i xs, y = .p (.int i) → seqOf s' x = some xs → atI xs i = some r → wpAny (model X.prog X.w) X.A (eval (.Subscript e1 e2 pos) X.env) (EP X pins σ Q) X.xe st := fun i xs ey ex er => by
    subst ey
    refine (pe_ix ix_seq ha hb hs).run pins st σ H Q I (two cs sr ea eb fun g2 v1 v2 H2 m c2 r1 r2 => ?_)
    cases r2.dz
    obtain ⟨p, vs, rfl, hq, rs⟩ := seqOf_ok c2 r1 ex
    obtain ⟨u, eu, ru⟩ := atI_rls rs er
    rcases hq with hq | hq
    · exact .inl ⟨p, vs, i, u, rfl, rfl, hq, eu, k g2 u H2 m c2 ru⟩
    · exact .inr (.inl ⟨p, vs, i, u, rfl, rfl, hq, eu, k g2 u H2 m c2 ru⟩)
  cases y with
  | p dy =>
    cases dy with
    | int i =>
      cases x with
      | p dx =>
        cases dx with
        | str z =>
          have ed : (if fits z = true then (atI z.cps.toList i).map fun c => Vl.p (.str ⟨#[c]⟩) else none) = some r := ed
          split at ed
          · rename_i hf
            obtain ⟨c, ec, rfl⟩ := mapf ed
            refine (pe_ix ix_seq ha hb hs).run pins st σ H Q I (two cs sr ea eb fun g2 v1 v2 H2 m c2 r1 r2 => ?_)
            cases r1.dz; cases r2.dz
            exact .inr (.inr ⟨z, i, c, rfl, rfl, Nat.le_of_ble_eq_true hf, ec, k g2 _ H2 m c2 (.p (.str _))⟩)
          · cases ed
        | list xs => exact seq i _ rfl rfl ed
        | tuple xs => exact seq i _ rfl rfl ed
        | none => cases ed
        | bool q => cases ed
        | int q => cases ed
        | dict q => cases ed
      | ref n =>
        obtain ⟨xs, h1, h2⟩ := Option.bind_eq_some_iff.mp (show (seqOf s' (.ref n)).bind (fun xs => atI xs i) = some r from ed)
        exact seq i xs rfl h1 h2
      | scr q =>
        obtain ⟨xs, h1, h2⟩ := Option.bind_eq_some_iff.mp (show (seqOf s' (.scr q)).bind (fun xs => atI xs i) = some r from ed)
        exact seq i xs rfl h1 h2
      | dic gx => cases ed
      | ty n => cases ed
    | str z =>
      cases x with
      | dic gx =>
        obtain ⟨t, ht, h2⟩ := Option.bind_eq_some_iff.mp (show (P.dics gx).bind (fun t => (t.lookup z).map Vl.p) = some r from ed)
        obtain ⟨d, hd, rfl⟩ := mapf h2
        obtain ⟨pa, es, n, hm, D, hz⟩ := G.dic gx t ht
        have hix : IxR X (rIxD X.K X.w) := ix_kdict
        rcases hz z with ⟨q1, _⟩ | ⟨d', u, v, q1, q2, q3, q4⟩
        · rw [q1] at hd; cases hd
        · rw [q1] at hd; cases hd
          refine (pe_ix hix ha hb hs).run pins st σ H Q I (two cs sr ea eb fun g2 v1 v2 H2 m c2 r1 r2 => ?_)
          cases r2.dz
          cases r1 with
          | dic hm' =>
            rw [hm] at hm'; cases hm'
            exact ⟨pa, z, v, rfl, rfl, ⟨es, n, u, D.at_, D.lit, q2, q3⟩, k g2 v H2 m c2 (.p (q4 _ _))⟩
      | p dx => cases dx <;> cases ed
      | ref n => cases ed
      | ty n => cases ed
      | scr q => cases ed
    | _ =>
      cases x with
      | p dx => cases dx <;> cases ed
      | _ => cases ed
  | _ =>
    cases x with
    | p dx => cases dx <;> cases ed
    | _ => cases ed⟩

/-! ### slices -/
theorem allP_map : ∀ xs : List PyData, allP (xs.map .p) = some xs
  | [] => rfl
  | x :: r => by
    show (allP (r.map .p)).map (x :: ·) = _
    rw [allP_map r]; rfl
theorem DZs.reverse {K : PySem.W.Frag} {Z : Addr → Prop} {H : Hp} : ∀ {vs : List V} {ds : List PyData}, DZs K Z H vs ds → DZs K Z H vs.reverse ds.reverse
  | _, _, .nil => .nil
  | _, _, .cons h hs => by
    rw [List.reverse_cons, List.reverse_cons]
    exact (DZs.reverse hs).append (.cons h .nil)

theorem cutV_dz {K : PySem.W.Frag} {Z : Addr → Prop} {H : Hp} {vs : List V} {ds : List PyData} {lo hi : Option Int} (h : DZs K Z H vs ds) : DZs K Z H (cutV vs lo hi) (cutL ds lo hi) := by
  unfold cutV cutL
  rw [h.length]
  exact (h.drop _).take _
theorem cutL_all {α : Type} {xs : List α} {lo hi : Option Int} (h : HT.sIx xs.length 0 lo = 0 ∧ HT.sIx xs.length xs.length hi = xs.length) : cutL xs lo hi = xs := by
  unfold cutL
  rw [h.1, h.2, List.drop_zero, Nat.sub_zero, List.take_length]
/-- a slice's part as the term has it: left out is None -/
def PartIs (P : Pg) (X : Cx) (o : Option Expr) (e : E) : Prop := match o with
  | none => e = .non
  | some ex => PE X ex (tE P X e) ∧ e ≠ .non
theorem optB_dz {K : PySem.W.Frag} {mg : Str → Option Value} {g : Gh} {H : Hp} {e : E} {x : Vl} {o : Option Int} {v : V} (hn : e ≠ .non) (r : RL K mg g H x v) (h : optB e x = some o) : ∃ i, o = some i ∧ v = .int i := by
  have key : (∃ i, x = .p (.int i) ∧ o = some i) := by
    cases x with
    | p d =>
      cases d with
      | int i => cases e <;> first | exact absurd rfl hn | (cases h; exact ⟨i, rfl, rfl⟩)
      | _ => cases e <;> first | exact absurd rfl hn | cases h
    | _ => cases e <;> first | exact absurd rfl hn | cases h
  obtain ⟨i, rfl, rfl⟩ := key
  cases r.dz
  exact ⟨i, rfl, rfl⟩
def tPartE (P : Pg) (X : Cx) (e : E) : TO := fun σ H Q => ∃ g sl s x s' o, CS X.K X.mg g s H ∧ SR X.K X.mg g H sl σ ∧ evE P e sl s = .ok x s' ∧ optB e x = some o ∧
  ∀ g' H', Mo g H g' H' → CS X.K X.mg g' s' H' → Q o H'
theorem po_of {o : Option Expr} {e : E} (h : PartIs P X o e) : PO X o (tPartE P X e) := ⟨fun pins st σ H Q I ⟨g, sl, s, x, s', oi, cs, sr, ev, eo, k⟩ => by
  cases o with
  | none =>
    cases (show e = .non from h)
    cases ev
    cases eo
    exact po_none.run pins st σ H Q I (k g H .refl cs)
  | some ex =>
    obtain ⟨hp, hn⟩ := h
    refine (po_some hp).run pins st σ H Q I (one_ cs sr ev fun g1 v1 H1 m1 c1 r1 => ?_)
    obtain ⟨i, rfl, rfl⟩ := optB_dz hn r1 eo
    exact ⟨i, rfl, k g1 H1 m1 c1⟩⟩
theorem sE_sl {lo hi : Option Expr} {el eh : E} {p2 : Pos} (ha : PE X e1 (tE P X a)) (hl : PartIs P X lo el) (hh : PartIs P X hi eh) : PE X (.Subscript e1 (.Slice lo hi none p2) pos) (tE P X (.sl a el eh)) := ⟨fun pins st σ H Q I ⟨g, sl, s, r, s', cs, sr, e, k⟩ => by
  obtain ⟨x, s1, ea, q1⟩ := O.bind_ok e
  obtain ⟨l, s2, e2, q2⟩ := O.bind_ok q1
  obtain ⟨u, s3, e3, q3⟩ := O.bind_ok q2
  obtain ⟨lo', s4, e4, q4⟩ := O.bind_ok q3
  obtain ⟨e4, eq⟩ := lift_ok e4
  rw [eq] at q4
  obtain ⟨hi', s5, e5, q5⟩ := O.bind_ok q4
  obtain ⟨e5, eq⟩ := lift_ok e5
  rw [eq] at q5
  obtain ⟨d, s6, e6, q6⟩ := O.bind_ok q5
  obtain ⟨e6, eq⟩ := lift_ok e6
  rw [eq] at q6
  obtain ⟨rfl, rfl⟩ := ok_inj (show O.ok (Vl.p d) s3 = O.ok r s' from q6)
  have key : ∀ (R : V → Option Int → Option Int → Hp → Prop), (∀ g2 v1 H2, Mo g H g2 H2 → CS X.K X.mg g2 s3 H2 → RL X.K X.mg g2 H2 x v1 → R v1 lo' hi' H2) →
      tE P X a σ H fun v1 H1 => tPartE P X el σ H1 fun l H2 => tPartE P X eh σ H2 fun u H3 => R v1 l u H3 := fun R hR =>
    one_ cs sr ea fun g1 v1 H1 m1 c1 r1 => ⟨g1, sl, s1, l, s2, lo', c1, m1.sr sr, e2, e4, fun g2 H2 m2 c2 => ⟨g2, sl, s2, u, s3, hi', c2, (m1.trans m2).sr sr, e3, e5, fun g3 H3 m3 c3 => hR g3 v1 H3 ((m1.trans m2).trans m3) c3 ((m2.trans m3).rl r1)⟩⟩
  have hlst : ∀ xs ds, lstOf s3 x = some xs → allP xs = some ds → d = .list (cutL ds lo' hi') → wpAny (model X.prog X.w) X.A (eval (.Subscript e1 (.Slice lo hi none p2) pos) X.env) (EP X pins σ Q) X.xe st := fun xs ds h1 h2 h3 => by
    subst h3
    refine (pe_slice sl_list ha (po_of hl) (po_of hh)).run pins st σ H Q I (key _ fun g2 v1 H2 m c2 r1 => ?_)
    obtain ⟨p, vs, rfl, hq, rs⟩ := lstOf_ok c2 r1 h1
    exact ⟨p, vs, rfl, hq, newLst m c2 (cutV_dz (allP_dz h2 rs)) k⟩
  cases x with
  | p dx =>
    cases dx with
    | str z =>
      have e6 : (if fits z = true then some (PyData.str ⟨(cutL z.cps.toList lo' hi').toArray⟩) else none) = some d := e6
      obtain ⟨hf, rfl⟩ := ite_some e6
      refine (pe_slice sl_str ha (po_of hl) (po_of hh)).run pins st σ H Q I (key _ fun g2 v1 H2 m c2 r1 => ?_)
      cases r1.dz
      exact ⟨z, rfl, Nat.le_of_ble_eq_true hf, k g2 _ H2 m c2 (.p (.str _))⟩
    | list xs => cases e6; exact hlst _ xs rfl (allP_map xs) rfl
    | tuple xs =>
      cases e6
      refine (pe_slice sl_tupA ha (po_of hl) (po_of hh)).run pins st σ H Q I (key _ fun g2 v1 H2 m c2 r1 => ?_)
      cases r1.dz with
      | tup hq hs =>
        refine ⟨_, _, rfl, hq, fun hw => ?_, fun _ => newTup m c2 (cutV_dz hs) k⟩
        rw [hs.length] at hw
        rw [cutL_all hw] at k
        exact k g2 _ H2 m c2 (.p (.tup hq hs))
    | _ => cases e6
  | scr xs =>
    cases e6
    exact hlst _ _ rfl (allP_map _) rfl
  | _ => cases e6⟩
theorem sE_slrev {k0 : Nat} {p1 p2 p3 : Pos} (ha : PE X e1 (tE P X a)) : PE X (.Subscript e1 (.Slice none none (some (.UnaryOp .USub (.Constant (.int 1) k0 p1) p2)) p3) pos) (tE P X (.slrev a)) :=
  (pe_revL ha).imp fun σ H Q ⟨g, sl, s, r, s', cs, sr, e, k⟩ => by
    obtain ⟨x, s1, ea, q1⟩ := O.bind_ok e
    refine one_ cs sr ea fun g1 v1 H1 m1 c1 r1 => ?_
    cases x with
    | p d =>
      cases d with
      | list xs =>
        obtain ⟨rfl, rfl⟩ := ok_inj (show O.ok (Vl.p (.list xs.reverse)) s1 = O.ok r s' from q1)
        cases r1.dz with
        | lst hq z hs => exact ⟨_, _, rfl, SqL.of hq, newLst m1 c1 (DZs.reverse hs) k⟩
      | _ => cases q1
    | _ => cases q1
/-- a cell is given up: its list is data from then on -/
theorem sE_frz (ha : PE X e1 (tE P X a)) : PE X e1 (tE P X (.frz a)) :=
  ha.imp fun σ H Q ⟨g, sl, s, r, s', cs, sr, e, k⟩ => by
    obtain ⟨x, s1, ea, q1⟩ := O.bind_ok e
    refine one_ cs sr ea fun g1 v1 H1 m1 c1 r1 => ?_
    cases x with
    | ref n =>
      have q1 : (match s1[n]? with
        | some (.lst xs) => (lift (allP xs) s1).bind fun ds s => .ok (.p (.list ds)) (s.set n .dead)
        | _ => .bad) = O.ok r s' := q1
      cases q : s1[n]? with
      | none => rw [q] at q1; cases q1
      | some o =>
        rw [q] at q1
        cases o with
        | lst xs =>
          obtain ⟨ds, s2, h1, h2⟩ := O.bind_ok q1
          obtain ⟨h1, eq⟩ := lift_ok h1
          rw [eq] at h2
          obtain ⟨rfl, rfl⟩ := ok_inj (show O.ok (Vl.p (.list ds)) (s1.set n .dead) = O.ok r s' from h2)
          cases r1 with
          | ref hr =>
            obtain ⟨vs, hv, rs⟩ := c1.at_ n _ _ q hr
            exact k _ _ H1 (m1.trans (Mo.freeze hr)) (c1.freeze q hr) (.p (.lst hv (.inr rfl) ((Mo.freeze hr).dzs (allP_dz h1 rs))))
        | _ => cases q1
    | _ => cases q1

/-! ### calls of defs -/
theorem sE_call {f : Nat} {x : Str} {p : Pos} {ps : List Str} (G : Good P X) (F : FnAt P X f x ps) (hg : Gl X x) (hl : PA X (e1 :: es) (tL P X l)) (hn : lenL l = ps.length) (hd : (x == ("__debug__" : Str)) = false)
    (he : starEach (e1 :: es) X.env = (false, eval e1 X.env) :: starEach es X.env) (hpl : (backTo pos (starEach es X.env)).any (·.1) = false) : PE X (.Call (.Name x p) (e1 :: es) [] pos) (tE P X (.call f l)) := by
  obtain ⟨fa, fd, k0, hm, hk, hr, FO, hb, _⟩ := F.ex
  refine (peG FO hr G.gd hg hm hk hb pass0 hl hd he hpl).imp fun σ H Q ⟨g, sl, s, r, s', cs, sr, e, k⟩ => ?_
  obtain ⟨vs, s1, el, q1⟩ := O.bind_ok e
  refine ⟨g, sl, s, vs, s1, cs, sr, el, fun g1 us H1 m1 c1 r1 => ?_⟩
  exact ⟨by rw [← r1.length, evL_len el]; exact hn, g1, vs, s1, r, s', c1, r1, q1, fun g2 v H2 m2 c2 r2 => k g2 v H2 (m1.trans m2) c2 r2⟩
theorem sE_call0 {f : Nat} {x : Str} {p : Pos} (G : Good P X) (F : FnAt P X f x []) (hg : Gl X x) (hd : (x == ("__debug__" : Str)) = false) : PE X (.Call (.Name x p) [] [] pos) (tE P X (.call f .nil)) := by
  obtain ⟨fa, fd, k0, hm, hk, hr, FO, hb, _⟩ := F.ex
  refine (peG0 FO hr G.gd hg hm hk hb pass0 hd).imp fun σ H Q ⟨g, sl, s, r, s', cs, sr, e, k⟩ => ?_
  obtain ⟨vs, s1, el, q1⟩ := O.bind_ok e
  obtain ⟨rfl, rfl⟩ := ok_inj el
  exact ⟨rfl, g, [], s, r, s', cs, .nil, q1, k⟩
theorem sE_callK {f : Nat} {x k1 : Str} {p p4 : Pos} (G : Good P X) (F : FnAt P X f x [k1]) (hg : Gl X x) (ha : PE X e1 (tE P X a)) (hd : (x == ("__debug__" : Str)) = false) :
    PE X (.Call (.Name x p) [] [⟨some k1, e1, p4⟩] pos) (tE P X (.callK f k1 a)) := by
  obtain ⟨fa, fd, k0, hm, hk, hr, FO, _, hb⟩ := F.ex
  refine ⟨fun pins st σ H Q I ⟨g, sl, s, r, s', cs, sr, e, k⟩ => ?_⟩
  obtain ⟨v, s1, el, q1⟩ := O.bind_ok e
  refine wpAny_Call_Name_kw (ld_glob I hg hm ?_ hd)
  refine PySem.W.callWith_KW0 (h₀ := X.base) I.ok.mod.kin hk rfl (thn ((pk_cons ha pk_nil).run pos pins st σ H (fun zs H2 => spV P X.K X.mg f 1 zs H2 Q E0) I ?_) fun ws s2 ⟨zs, H2, I2, rz, q2⟩ => ⟨I2.kIn, ?_⟩) rfl
  · exact one_ cs sr el fun g1 u H1 m1 c1 r1 => ⟨rfl, g1, [v], s1, r, s', c1, .cons r1 .nil, q1, fun g2 v2 H2 m2 c2 r2 => k g2 v2 H2 (m1.trans m2) c2 r2⟩
  · exact runGk FO hr G.gd (hb k1 rfl) pass0 I2 .nil rz q2
end
end Sh
/-! Sh6: built-in functions and methods. -/
set_option linter.all false
set_option autoImplicit false
set_option maxRecDepth 100000
set_option maxHeartbeats 1000000
namespace Sh
open PySem PySem.Spec PyProof.Rows L2
section
variable {P : Pg} {X : Cx} {e1 e2 e3 : Expr} {a b c o : E} {pos : Pos} {es : List Expr} {l : L}
theorem show_noD {d : PyData} (h : showOk d = true) : noD d = true := by
  unfold showOk at h
  exact (and2 (and2 (and2 (and2 h).1).1).1).1
/-- repr of data -/
theorem call_reprD (G : Good P X) : CallR X (.builtin "repr") (fun xs H Q => ∃ x d, xs = [x] ∧ Dp X.K H x d ∧ showOk d = true ∧ Q (.str d.shown) H) := by
  intro pins s σ H xs us Q I r h
  obtain ⟨x, d, rfl, hd, hs, q⟩ := h
  obtain ⟨u, rfl, rx⟩ := vals1 r
  unfold showOk at hs
  obtain ⟨hs, h4⟩ := and2 hs
  obtain ⟨hs, h3⟩ := and2 hs
  obtain ⟨hs, h2⟩ := and2 hs
  obtain ⟨_, h1⟩ := and2 hs
  have h3 := Nat.le_of_ble_eq_true h3
  have h4 := Nat.le_of_ble_eq_true h4
  have hu := G.units
  have fin : ∀ h' t' tk, (∀ b ob, s.heap.get? b = some ob → h'.get? b = some ob) → EP X pins σ Q (.str d.shown t') { s with heap := h', toks := tk } := fun h' t' tk hk => ⟨.str d.shown, H, I.kept hk, ⟨_, rfl⟩, q⟩
  have leaf : ∀ tk, EP X pins σ Q (.str d.shown tk) { s with toks := s.toks + 1 } := fun tk => fin s.heap tk (s.toks + 1) fun _ _ z => z
  have noDict : d.hasDict = false := by simpa using h2
  cases hd with
  | non =>
    rw [PyData.shown_none] at leaf
    cases rx
    exact PySem.P.repr_of_none (leaf _)
  | bl b =>
    rw [PyData.shown_bool] at leaf
    cases rx
    exact PySem.P.repr_of_bool (leaf _)
  | int i =>
    rw [PyData.shown_int] at leaf
    obtain ⟨t, rfl⟩ := rx
    exact PySem.P.repr_of_int (by simpa [PyData.showable] using h1) (leaf _)
  | str z =>
    rw [PyData.shown_str] at leaf h3
    obtain ⟨t, rfl⟩ := rx
    exact PySem.P.repr_of_str (leaf _) h3
  | lst ha hs' =>
    obtain ⟨as, rd⟩ := Dp.reads I _ _ u (.lst ha hs') rx
    cases rx
    exact PySem.repr_of_reads' rd h1 (fun z => by rw [noDict] at z; cases z) G.gd (by omega) (fun _ _ z => z) (fun h' t' tk hk => fin h' t' tk hk) h3
  | tup ha hs' =>
    obtain ⟨as, rd⟩ := Dp.reads I _ _ u (.tup ha hs') rx
    cases rx
    exact PySem.repr_of_reads' rd h1 (fun z => by rw [noDict] at z; cases z) G.gd (by omega) (fun _ _ z => z) (fun h' t' tk hk => fin h' t' tk hk) h3

/-! ### built-in functions -/
def bval : B → Value
  | .len => .builtin "len" | .abs => .builtin "abs" | .max2 => .builtin "max" | .min2 => .builtin "min" | .intOf => .type "int" | .all => .builtin "all" | .any => .builtin "any" | .sum => .builtin "sum"
  | .tuple => .type "tuple" | .list => .type "list" | .gcd => .builtin "math.gcd" | .repr => .builtin "repr" | .isinst => .builtin "isinstance" | .divmod => .builtin "divmod" | .sorted => .builtin "sorted" | .lenset => .builtin "len"
def BltIs (X : Cx) (f : Value) (vs : List Vl) (s s' : Cells) (r : Vl) : Prop := ∃ rr : List V → Hp → VK → Prop, CallR X f rr ∧
  ∀ (g : Gh) (H : Hp) (us : List V) (Q : VK), CS X.K X.mg g s H → RLs X.K X.mg g H vs us → (∀ g' v H', Mo g H g' H' → CS X.K X.mg g' s' H' → RL X.K X.mg g' H' r v → Q v H') → rr us H Q
theorem rls1 {K : PySem.W.Frag} {mg : Str → Option Value} {g : Gh} {H : Hp} {x : Vl} {us : List V} (r : RLs K mg g H [x] us) : ∃ u, us = [u] ∧ RL K mg g H x u := by
  cases r with
  | cons h hs => cases hs; exact ⟨_, rfl, h⟩
theorem rls2 {K : PySem.W.Frag} {mg : Str → Option Value} {g : Gh} {H : Hp} {x y : Vl} {us : List V} (r : RLs K mg g H [x, y] us) : ∃ u v, us = [u, v] ∧ RL K mg g H x u ∧ RL K mg g H y v := by
  cases r with
  | cons h hs =>
    obtain ⟨v, rfl, h2⟩ := rls1 hs
    exact ⟨_, v, rfl, h, h2⟩
theorem bools_dz {K : PySem.W.Frag} {Z : Addr → Prop} {H : Hp} {ds : List PyData} : ∀ {bs : List Bool} {vs : List V}, boolsOf ds = some bs → DZs K Z H vs ds → vs = bs.map V.bl := by
  induction ds with
  | nil =>
    intro bs vs e h
    cases e; cases h; rfl
  | cons d r ih =>
    intro bs vs e h
    cases h with
    | cons h hs =>
      cases d with
      | bool b =>
        obtain ⟨bs', e1, rfl⟩ := mapf (show (boolsOf r).map (b :: ·) = some bs from e)
        cases h
        rw [ih e1 hs]; rfl
      | _ => cases e
theorem ints_dz {K : PySem.W.Frag} {Z : Addr → Prop} {H : Hp} {ds : List PyData} : ∀ {bs : List Int} {vs : List V}, intsOf ds = some bs → DZs K Z H vs ds → vs = bs.map V.int := by
  induction ds with
  | nil =>
    intro bs vs e h
    cases e; cases h; rfl
  | cons d r ih =>
    intro bs vs e h
    cases h with
    | cons h hs =>
      cases d with
      | int b =>
        obtain ⟨bs', e1, rfl⟩ := mapf (show (intsOf r).map (b :: ·) = some bs from e)
        cases h
        rw [ih e1 hs]; rfl
      | _ => cases e
theorem strs_dz {K : PySem.W.Frag} {Z : Addr → Prop} {H : Hp} {ds : List PyData} : ∀ {bs : List Str} {vs : List V}, strsOf ds = some bs → DZs K Z H vs ds → vs = bs.map V.str := by
  induction ds with
  | nil =>
    intro bs vs e h
    cases e; cases h; rfl
  | cons d r ih =>
    intro bs vs e h
    cases h with
    | cons h hs =>
      cases d with
      | str b =>
        obtain ⟨bs', e1, rfl⟩ := mapf (show (strsOf r).map (b :: ·) = some bs from e)
        cases h
        rw [ih e1 hs]; rfl
      | _ => cases e
theorem dz_strs {K : PySem.W.Frag} {Z : Addr → Prop} {H : Hp} : ∀ ys : List Str, DZs K Z H (ys.map V.str) (ys.map PyData.str)
  | [] => .nil
  | y :: r => .cons (.str y) (dz_strs r)
/-- the type of data -/
theorem tyX_dz {K : PySem.W.Frag} {Z : Addr → Prop} {H : Hp} {v : V} {d : PyData} {t : String} (h : DZ K Z H v d) (e : tyOf d = some t) : TyX K H v (.type t) := by
  cases h with
  | non => cases e; exact .base .non
  | bl b => cases e; exact .base (.bl b)
  | int i => cases e; exact .base (.int i)
  | str x => cases e; exact .base (.str x)
  | lst h z hs => cases e; exact .base (.lst h)
  | tup h hs =>
    cases e
    rcases h with (h | ⟨o, h⟩) | ⟨o, its, n, h, hc, _⟩
    · exact .base (.tup h)
    · exact .fTuple h
    · exact .kTuple h hc
  | emp h => cases e; exact .base (.dK h)
theorem kit_ok (K : PySem.W.Frag) {t n : String} {b : Bool} (ht : t = "NoneType" ∨ t = "bool" ∨ t = "int" ∨ t = "str" ∨ t = "list" ∨ t = "tuple" ∨ t = "dict")
    (e : (if (["int", "str", "list", "tuple", "bool"].contains n) = true then some (decide (t = n) || (decide (t = "bool") && decide (n = "int"))) else none) = some b) : PySem.W.kitOne K (.type t) (.type n) = some b := by
  obtain ⟨h1, rfl⟩ := ite_some e
  have hn : n = "int" ∨ n = "str" ∨ n = "list" ∨ n = "tuple" ∨ n = "bool" := by
    simpa using h1
  rcases ht with rfl | rfl | rfl | rfl | rfl | rfl | rfl <;> rcases hn with rfl | rfl | rfl | rfl | rfl <;> kernel_rfl
theorem tyOf_six {d : PyData} {t : String} (e : tyOf d = some t) : t = "NoneType" ∨ t = "bool" ∨ t = "int" ∨ t = "str" ∨ t = "list" ∨ t = "tuple" ∨ t = "dict" := by
  cases d <;> cases e <;> simp
/-- sorted of a list of one item -/
theorem cr_sorted1 : CallR X (.builtin "sorted") (fun vs H Q => ∃ (p : Addr) (x : V), vs = [V.ref p] ∧ SqL X.K H p [x] ∧ ∀ q, H q = none → Q (.ref q) (upd H q (.lst [x]))) := by
  intro pins s σ H vs us Q I r h
  obtain ⟨p, x, rfl, hs, q⟩ := h
  obtain ⟨its, rv, hl, hz⟩ := I.list hs
  rw [Vals.ref1 r]
  obtain ⟨u, rfl, ru⟩ := vals1 rv
  refine Srt.sorted_any hl.isList (by show 1 ≤ sizeLine; decide) (fun h2 => absurd h2 (by show ¬ 2 ≤ 1; omega)) fun out ho => ?_
  have eo : out = [u] := List.perm_singleton.mp ho
  subst eo
  obtain ⟨ep, he'⟩ := PyProof.Rows.sortedAll_at s.heap [u] #[u]
  exact ⟨.ref _, upd H (s.heap.objs.size + 1) (.lst [x]), I.laid (t' := s.toks) (fun _ _ => PyProof.Rows.sortedAll_old) (Nat.le_succ _) ⟨(by show 1 ≤ sizeLine; decide), [u], ep, .cons ru .nil, he'⟩, rfl, q _ (I.hok.fresh (Nat.le_succ _))⟩
theorem bltV_ok (G : Good P X) {q : B} (hnl : q ≠ .lenset) {vs : List Vl} {s s' : Cells} {r : Vl} (e : bltV P q vs s = .ok r s') : BltIs X (bval q) vs s s' r := by
  unfold bltV at e
  split at e
  · -- len of a text
    rename_i x
    split at e
    · rename_i hf
      obtain ⟨rfl, rfl⟩ := ok_inj e
      refine ⟨_, call_len_str, fun g H us Q cs rs k => ?_⟩
      obtain ⟨u, rfl, r1⟩ := rls1 rs
      cases r1.dz
      exact ⟨x, rfl, Nat.le_of_ble_eq_true hf, k g _ H .refl cs (.p (.int _))⟩
    · cases e
  · rename_i v _
    split at e
    · rename_i xs hx
      obtain ⟨rfl, rfl⟩ := ok_inj e
      refine ⟨_, call_len_seq, fun g H us Q cs rs k => ?_⟩
      obtain ⟨u, rfl, r1⟩ := rls1 rs
      obtain ⟨p, ws, rfl, hq, rw'⟩ := seqOf_ok cs r1 hx
      refine ⟨p, ws, rfl, hq, ?_⟩
      rw [← rw'.length]
      exact k g _ H .refl cs (.p (.int _))
    · cases e
  · obtain ⟨rfl, rfl⟩ := ok_inj e
    refine ⟨_, call_abs, fun g H us Q cs rs k => ?_⟩
    obtain ⟨u, rfl, r1⟩ := rls1 rs
    cases r1.dz
    exact ⟨_, rfl, k g _ H .refl cs (.p (.int _))⟩
  · obtain ⟨rfl, rfl⟩ := ok_inj e
    refine ⟨_, call_max2 G.calm, fun g H us Q cs rs k => ?_⟩
    obtain ⟨u, v, rfl, r1, r2⟩ := rls2 rs
    cases r1.dz; cases r2.dz
    exact ⟨_, _, rfl, k g _ H .refl cs (.p (.int _))⟩
  · obtain ⟨rfl, rfl⟩ := ok_inj e
    refine ⟨_, call_min2 G.calm, fun g H us Q cs rs k => ?_⟩
    obtain ⟨u, v, rfl, r1, r2⟩ := rls2 rs
    cases r1.dz; cases r2.dz
    exact ⟨_, _, rfl, k g _ H .refl cs (.p (.int _))⟩
  · obtain ⟨rfl, rfl⟩ := ok_inj e
    refine ⟨_, call_int1, fun g H us Q cs rs k => ?_⟩
    obtain ⟨u, rfl, r1⟩ := rls1 rs
    cases r1.dz
    exact .inl ⟨_, rfl, k g _ H .refl cs (.p (.int _))⟩
  · obtain ⟨rfl, rfl⟩ := ok_inj e
    refine ⟨_, call_int1, fun g H us Q cs rs k => ?_⟩
    obtain ⟨u, rfl, r1⟩ := rls1 rs
    cases r1.dz
    exact .inr ⟨_, rfl, k g _ H .refl cs (.p (.int _))⟩
  · rename_i x
    split at e
    · rename_i hz
      split at e
      · rename_i n hn
        obtain ⟨rfl, rfl⟩ := ok_inj e
        refine ⟨_, call_int_str, fun g H us Q cs rs k => ?_⟩
        obtain ⟨u, rfl, r1⟩ := rls1 rs
        cases r1.dz
        exact ⟨x, n, rfl, hn, Nat.le_of_ble_eq_true hz, k g _ H .refl cs (.p (.int _))⟩
      · cases e
    · cases e
  · split at e
    · rename_i bs hb
      obtain ⟨rfl, rfl⟩ := ok_inj e
      refine ⟨_, cr_all G.calm, fun g H us Q cs rs k => ?_⟩
      obtain ⟨u, rfl, r1⟩ := rls1 rs
      cases r1.dz with
      | lst h z hs =>
        rw [bools_dz hb hs] at h
        exact ⟨_, bs, rfl, SqL.of h, k g _ H .refl cs (.p (.bl _))⟩
    · cases e
  · split at e
    · rename_i bs hb
      obtain ⟨rfl, rfl⟩ := ok_inj e
      refine ⟨_, cr_any G.calm, fun g H us Q cs rs k => ?_⟩
      obtain ⟨u, rfl, r1⟩ := rls1 rs
      cases r1.dz with
      | lst h z hs =>
        rw [bools_dz hb hs] at h
        exact ⟨_, bs, rfl, SqL.of h, k g _ H .refl cs (.p (.bl _))⟩
    · cases e
  · split at e
    · rename_i bs hb
      obtain ⟨rfl, rfl⟩ := ok_inj e
      refine ⟨_, cr_sum G.calm, fun g H us Q cs rs k => ?_⟩
      obtain ⟨u, rfl, r1⟩ := rls1 rs
      cases r1.dz with
      | lst h z hs =>
        rw [ints_dz hb hs] at h
        exact ⟨_, bs, rfl, SqL.of h, k g _ H .refl cs (.p (.int _))⟩
    · cases e
  · rename_i v
    split at e
    · rename_i ds hx
      obtain ⟨rfl, rfl⟩ := ok_inj e
      obtain ⟨xs, h1, h2⟩ := Option.bind_eq_some_iff.mp hx
      refine ⟨_, call_tuple_of, fun g H us Q cs rs k => ?_⟩
      obtain ⟨u, rfl, r1⟩ := rls1 rs
      obtain ⟨p, ws, rfl, hq, rw'⟩ := seqOf_ok cs r1 h1
      refine ⟨p, ws, rfl, ?_⟩
      rcases hq with hq | hq
      · exact .inl ⟨hq, newTup .refl cs (allP_dz h2 rw') k⟩
      · exact .inr ⟨hq, k g _ H .refl cs (.p (.tup hq (allP_dz h2 rw')))⟩
    · cases e
  · rename_i v
    split at e
    · rename_i ds hx
      obtain ⟨rfl, rfl⟩ := ok_inj e
      obtain ⟨xs, h1, h2⟩ := Option.bind_eq_some_iff.mp hx
      refine ⟨_, call_list_of, fun g H us Q cs rs k => ?_⟩
      obtain ⟨u, rfl, r1⟩ := rls1 rs
      obtain ⟨p, ws, rfl, hq, rw'⟩ := seqOf_ok cs r1 h1
      exact ⟨p, ws, rfl, hq, newLst .refl cs (allP_dz h2 rw') k⟩
    · cases e
  · obtain ⟨rfl, rfl⟩ := ok_inj e
    refine ⟨_, cr_gcd, fun g H us Q cs rs k => ?_⟩
    obtain ⟨u, v, rfl, r1, r2⟩ := rls2 rs
    cases r1.dz; cases r2.dz
    exact ⟨_, _, rfl, k g _ H .refl cs (.p (.int _))⟩
  · split at e
    · rename_i hs
      obtain ⟨rfl, rfl⟩ := ok_inj e
      refine ⟨_, call_reprD G, fun g H us Q cs rs k => ?_⟩
      obtain ⟨u, rfl, r1⟩ := rls1 rs
      exact ⟨u, _, rfl, r1.dz.dp (show_noD hs), hs, k g _ H .refl cs (.p (.str _))⟩
    · cases e
  · rename_i d n
    split at e
    · rename_i q hq
      obtain ⟨rfl, rfl⟩ := ok_inj e
      obtain ⟨t, h1, h2⟩ := Option.bind_eq_some_iff.mp hq
      refine ⟨_, call_isi, fun g H us Q cs rs k => ?_⟩
      obtain ⟨u, v, rfl, r1, r2⟩ := rls2 rs
      cases r2
      exact ⟨u, .ty n, .type t, .type n, q, rfl, .ty n, tyX_dz r1.dz h1, kit_ok X.K (tyOf_six h1) h2, k g _ H .refl cs (.p (.bl _))⟩
    · cases e
  · exact absurd rfl hnl
  · obtain ⟨rfl, rfl⟩ := ok_inj e
    refine ⟨_, cr_sorted1, fun g H us Q cs rs k => ?_⟩
    obtain ⟨u, rfl, r1⟩ := rls1 rs
    cases r1.dz with
    | lst h z hs =>
      cases hs with
      | cons hd hr =>
        cases hr
        exact ⟨_, _, rfl, SqL.of h, newLst .refl cs (.cons hd .nil) k⟩
  · split at e
    · rename_i h1
      obtain ⟨rfl, rfl⟩ := ok_inj e
      obtain ⟨h1, h2⟩ := and2 h1
      refine ⟨_, call_divmod, fun g H us Q cs rs k => ?_⟩
      obtain ⟨u, v, rfl, r1, r2⟩ := rls2 rs
      cases r1.dz; cases r2.dz
      exact ⟨_, _, rfl, ⟨of_decide_eq_true h1, of_decide_eq_true h2⟩, newTup .refl cs (.cons (.int _) (.cons (.int _) .nil)) k⟩
    · cases e
  · cases e
end
end Sh
/-! ShL: len(set(t)) of a tuple of one item. -/
set_option linter.all false
set_option autoImplicit false
set_option maxRecDepth 100000
set_option maxHeartbeats 2000000
namespace Sh
open PySem PySem.Spec PyProof.Rows L2
section
variable {P : Program} {w : World} {E : Value → Shared → Prop}
/-- whether a key hashes by its value: some answer, and nothing changes -/
theorem hashBy_any : ∀ (n : Nat) (A : Around) (k : NestedKey) (v : Value) (s : Shared) (Q : Bool → Shared → Prop), NestedIs s.heap k v → (∀ b, Q b s) → wpAny (model P w) A (hashByValue n v) Q E s
  | n, A, .none, _, s, Q, x, h => by
    cases x
    cases n <;> exact wpAny_pure (h _)
  | n, A, .num i, _, s, Q, x, h => by
    cases x with
    | bool e => cases n <;> exact wpAny_pure (h _)
    | int _ t => cases n <;> exact wpAny_pure (h _)
  | n, A, .text y, _, s, Q, x, h => by
    cases x
    cases n <;> exact wpAny_pure (h _)
  | 0, A, .tup ks, _, s, Q, x, h => by
    cases x
    exact wpAny_pure (h _)
  | n + 1, A, .tup ks, _, s, Q, x, h => by
    cases x with
    | @tup a o vs m _ hg hc hd hk =>
      have hT : s.TypeIs (.ref a) "tuple" := ⟨_, hg, hc⟩
      unfold hashByValue
      refine wpAny_bind (wpAny_specialOf hT F.slot_tuple_hash.lookup ?_)
      show wpAny _ _ (seqItems? (.ref a) >>= _) _ _ s
      refine wpAny_bind (wpAny_seqItems hg hd ?_)
      refine wpAny_bind ?_
      show wpAny _ _ (forIn vs _ _) _ _ s
      rw [← Array.forIn_toList]
      refine wpAny_forIn_list _ (fun rest r s' => s' = s ∧ r.1 = none ∧ ∃ ks, NestedAll s.heap ks rest) _ ?_ ?_ _ _ ⟨rfl, rfl, ks, hk⟩
      · rintro v rest r s' ⟨rfl, hr, ks', hall⟩
        cases hall with
        | cons h1 h2 =>
          refine wpAny_bind (hashBy_any n A _ v _ _ h1 fun b => ?_)
          cases b with
          | true =>
            simp only [Bool.not_true, Bool.false_eq_true, if_false]
            exact wpAny_pure ⟨rfl, rfl, _, h2⟩
          | false =>
            simp only [Bool.not_false, if_true]
            exact wpAny_pure (wpAny_pure (h _))
      · rintro ⟨r1, r2⟩ s' ⟨rfl, hr, _⟩
        simp only at hr
        subst hr
        exact wpAny_pure (h _)
/-- an empty table -/
abbrev tab0 (led : Bool) : SetTable := .fresh 0 0 led
theorem probe0 (led : Bool) (f : Nat → Int) (h : Int) : (tab0 led).probe f h ((tab0 led).probeStart h) = some (.empty ((tab0 led).probeStart h).j none) := by
  unfold SetTable.probe
  show SetTable.probe.go _ _ _ (219 + 1) _ = _
  rfl
variable {s : Shared} {A : Around}
theorem add_empty {a b : Addr} {o : Obj} {led : Bool} {ep : Nat} {k : NestedKey} {x : Value} {hx : Int} {Q : Bool → Shared → Prop} (hxr : x = .ref b) (ho : s.heap.get? a = some o) (hd : o.data = .set #[] ep (tab0 led)) (hk : NestedIs s.heap k x)
    (h : ∀ (h' : Heap) (t : SetTable), Heap.SameBut a s.heap h' → h'.get? a = some { o with data := .set #[(hx, x)] (ep + 1) t } → t.fits 1 = true → Q true { s with heap := h' }) :
    wpAny (model P w) A (setAddHashed a x hx) Q E s := by
  subst hxr
  have hf : (tab0 led).fits (#[] : Array (Int × Value)).size = true := rfl
  unfold setAddHashed
  refine wpAny_holding ?_
  rw [show (100000 : Nat) = 99999 + 1 from rfl, L2.setAddHashedIn_succ]
  refine wpAny_bind (wpAny_setState_of ho hd hf ?_)
  dsimp only
  refine wp_if_neg (by simp [byScan, Value.scannable]) ?_
  try refine wpAny_bind (wpAny_pure ?_)
  refine wpAny_bind ?_
  unfold setSearch
  rw [show (100000 : Nat) = 99999 + 1 from rfl, L2.setSearchFrom_succ]
  refine wpAny_bind (wpAny_setState_of ho hd hf ?_)
  dsimp only
  have hg : (tab0 led).gaveWay = false := by
    unfold SetTable.gaveWay
    show ((7 : Nat) % 2 == 0) = false
    decide
  rw [hg]
  refine wp_if_neg Bool.false_ne_true ?_
  try refine wpAny_bind (wpAny_pure ?_)
  refine wpAny_pure ?_
  dsimp only
  refine wpAny_bind (wpAny_setState_of ho hd hf ?_)
  dsimp only
  generalize (((none : Option SetTable.Probe).getD ((tab0 led).probeStart hx)).j) = j
  have hp : (tab0 led).put j = ({ tab0 led with place := #[j] }, 0) := by
    unfold SetTable.put
    rfl
  rw [hp]
  dsimp only
  refine wp_if_pos rfl ?_
  refine wpAny_bind (hashBy_any 8 A k _ s _ hk fun q => ?_)
  have fin : ∀ t : SetTable, t.fits 1 = true → t.tooFull = false → wpAny (model P w) A (do
      storeSet a (SetTable.insertAt (#[] : Array (Int × Value)) 0 (hx, Value.ref b)) t
      if (!false && t.tooFull) = true then do
        setRelay a (SetTable.grown ((#[] : Array (Int × Value)).size + 1))
        pure true
      else pure true) Q E s := fun t ht hn => by
    refine wpAny_bind (wpAny_storeSet_of ho hd ?_ (by show 1 ≤ sizeLine; decide))
    simp only [hn, Bool.and_false, Bool.false_eq_true, if_false]
    refine wpAny_pure (h _ t (Heap.SameBut.update ..) ?_ ht)
    have e := putSet_of #[(hx, Value.ref b)] t hd
    have q := Heap.get?_update_self (Obj.putSet #[(hx, Value.ref b)] t) ho (by rw [e]; rfl)
    rw [e] at q
    exact q
  cases q with
  | true => exact fin _ rfl rfl
  | false => exact fin _ rfl rfl
/-- an empty set, just made -/
abbrev set0 (w : World) : Obj := { cls := .type "set", dict := none, data := .set #[] 0 (.fresh 0 0 (!w.params.followText "set-order")) }
/-- the set at S holds one thing -/
def One (h : Heap) (S : Addr) : Prop := ∃ (o : Obj) (es : Array (Int × Value)) (ep : Nat) (t : SetTable), h.get? S = some o ∧ o.ExactSet ∧ o.data = .set es ep t ∧ t.fits es.size = true ∧ es.size = 1
theorem update_one {I S : Addr} {fp wr : List Addr} {G : Array GenState → Array GenState → Prop} {St : Nat → Shared → Prop} {R : Result → Shared → Prop} {b : Addr} {k : NestedKey} (W : WalksS P w A.in1 I fp wr G 1 (fun i v => i = 0 ∧ v = .ref b) St) (hS : S ∉ fp)
    (st : St 0 s) (ho : s.heap.get? S = some (set0 w)) (hk : NestedIs s.heap k (.ref b)) (hu : A.in1.units + k.depth < cLine)
    (keepK : ∀ s', Moved wr G s s' → NestedIs s'.heap k (.ref b)) (hR : ∀ s', Moved (S :: wr) G s s' → One s'.heap S → R (.ok (.ret .none)) s') :
    codeAny (model P w) A (.builtin "set.update.loop" ⟨[.ref S, .ref I], []⟩) R s := by
  have hSw : S ∉ wr := fun h => hS (W.sub _ h)
  refine codeAny_builtin F.entry_set_update_loop ?_
  rw [Around.under_plainId F.plain_set_update_loop _]
  show wpAny _ A.in1 (pyNext (.ref I) >>= _) _ _ s
  refine wpAny_bind (W.item 0 s _ _ (by decide) st fun v s1 hv st1 m1 => ?_)
  obtain ⟨_, rfl⟩ := hv
  have hk1 := keepK s1 m1
  have ho1 := m1.heap S _ hSw ho
  show wpAny _ A.in1 (holding [Value.ref b] (setAdd S (.ref b)) >>= _) _ _ s1
  refine wpAny_bind (wpAny_holding ?_)
  unfold setAdd
  refine wpAny_holding (wpAny_bind (pyHash_key k _ _ s1 _ hk1 hu ?_))
  refine add_empty (s := { s1 with toks := s1.toks + k.draws }) (k := k) rfl ho1 rfl hk1 fun h2 t sb e2 ht => ?_
  refine wpAny_pure ⟨plainId_quiet F.plain_set_update_loop _, codeAny_builtin F.entry_set_update_loop ?_⟩
  rw [Around.under_plainId F.plain_set_update_loop _]
  have st2 : St 1 { s1 with toks := s1.toks + k.draws, heap := h2 } := W.frame _ s1 _ _ st1 (Nat.le_add_right _ _) fun c hc o e => by
    rw [sb.2 c (fun q => hS (by rw [← q]; exact hc))]
    exact e
  show wpAny _ A.in1 (pyNext (.ref I) >>= _) _ _ _
  refine wpAny_bind (W.done _ _ _ st2 fun s3 m3 => ?_)
  show wpAny _ A.in1 (ret Value.none) _ _ s3
  refine wpAny_pure (hR s3 ?_ ?_)
  · refine Moved.trans W.gtrans ((m1.mono fun c hc => List.mem_cons_of_mem _ hc).then_heap (Nat.le_add_right _ _) fun c o hc e => ?_) (m3.mono fun c hc => List.mem_cons_of_mem _ hc)
    rw [sb.2 c (fun q => hc (by rw [q]; exact List.mem_cons_self))]
    exact e
  · exact ⟨_, _, _, t, m3.heap S _ hSw e2, ⟨rfl, rfl, rfl⟩, rfl, ht, rfl⟩
theorem size1 (h : Heap) (o : Obj) : (h.push o).objs.size = h.objs.size + 1 := Heap.size_push ..
theorem ne_size {h : Heap} {a : Addr} {o : Obj} (e : h.get? a = some o) : a ≠ h.objs.size := Nat.ne_of_lt (Heap.lt_size e)
theorem ne_size2 {h : Heap} {a : Addr} {o p : Obj} (e : h.get? a = some o) : a ≠ (h.push p).objs.size := by
  rw [size1]
  exact Nat.ne_of_lt (Nat.lt_succ_of_lt (Heap.lt_size e))
/-- set(t), t a tuple of one thing -/
theorem call_set_one {l b : Addr} {k : NestedKey} {Q : Value → Shared → Prop} (hh : A.handled = none) (hl : s.heap.IsTuple l #[.ref b]) (hk : NestedIs s.heap k (.ref b)) (hu : A.units + k.depth + 8 < cLine)
    (h : ∀ (h' : Heap) (tk : Nat), One h' s.heap.objs.size → (∀ c o, s.heap.get? c = some o → h'.get? c = some o) → Q (.ref s.heap.objs.size) { s with heap := h', toks := tk }) :
    wpAny (model P w) A (call (.type "set") [.ref l]) Q E s := by
  obtain ⟨c, tl, hmro⟩ := F.called_set.mro
  have hmade := F.called_set.made
  have hsub := F.called_set.sub
  refine wpAny_call (codeAny_of_tree ?_)
  show wpAny _ _ (callAny (.type "set") _) _ _ _
  refine wpAny_pure ⟨Code.quiet_builtin _ (by decide +kernel), codeAny_builtin F.entry_type_call ?_⟩
  rw [Around.under_plain (weight_type_call_type "set" [.ref l] []) rfl]
  have h1 := F.called_set.notType
  have h2 := F.called_set.canCreate
  have hct := F.typeCall_set_1 (.ref l)
  repeat (any_goals (first | assumption | wp_step))
  refine codeAny_mono (code_set_led1 (.ref l) (E := E) (Q₁ := fun u s₁ => u = .ref s.heap.objs.size ∧ s₁ = { s with heap := s.heap.push (set0 w) }) ⟨rfl, rfl⟩) fun r s₁ hr => ?_
  cases r with
  | error e => exact hr
  | ok fl =>
    cases fl with
    | ret obj =>
      obtain ⟨rfl, rfl⟩ := hr
      have hS : (s.heap.push (set0 w)).get? s.heap.objs.size = some (set0 w) := Heap.get?_push_size _ rfl
      have hT : Shared.TypeIs { s with heap := s.heap.push (set0 w) } (.ref s.heap.objs.size) "set" := ⟨_, hS, rfl⟩
      have hli := F.called_set.init.lookup
      have hbi := F.called_set.init.bind (.ref s.heap.objs.size)
      repeat (any_goals (first | assumption | wp_step))
      refine codeAny_mono (codeAny_call_builtin (R := wants (fun r s₂ => r = .none ∧ ∃ h' tk, s₂ = { s with heap := h', toks := tk } ∧ One h' s.heap.objs.size ∧ ∀ b o, s.heap.get? b = some o → h'.get? b = some o) E) F.called_set.init.plain F.entry_set_init (check_set_init_1 hT ?_)) fun r₂ s₂ hr₂ => ?_
      · obtain ⟨ol, hol, hcl, nl, hdl⟩ := hl
        obtain ⟨ocls, odict, odata, oslots⟩ := ol
        simp only at hcl hdl
        subst hcl hdl
        have hol' : (s.heap.push (set0 w)).get? l = some { cls := .type "tuple", dict := odict, data := .seq #[.ref b] nl, slots := oslots } := Heap.get?_push_of_some _ hol
        have q1 := F.sub_tuple_set
        have q2 := F.sub_tuple_frozenset
        have q3 : (Value.type "tuple" == Value.type "dict") = false := by decide
        have hl1 : (s.heap.push (set0 w)).IsTuple l #[.ref b] := ⟨_, hol', rfl, nl, rfl⟩
        unfold Builtin.«set.__init__» noKeywords Builtin.Frozenset.updateFrom
        generalize hPI : pyIter = PI
        wp_walk
        subst hPI
        refine wpAny_pyIter_tuple hl1 (wpAny_bind (wpAny_runValue ?_))
        have hh3 : A.in1.in1.in1.handled = none := by simp [hh]
        have nS : s.heap.objs.size ∉ [(s.heap.push (set0 w)).objs.size, l] := by
          rw [size1]
          intro m
          rcases List.mem_cons.mp m with e | e
          · exact absurd e (Nat.ne_of_lt (Nat.lt_succ_self _))
          · exact ne_size hol (List.mem_singleton.mp e).symm
        have W := (Walks.tuple (prog := P) (w := w) (A := A.in1.in1.in1) hh3 (s.heap.push (set0 w)).objs.size l (ne_size2 hol) #[.ref b]).toS
        have W1 : WalksS P w A.in1.in1.in1 (s.heap.push (set0 w)).objs.size _ _ (fun a b => b = a) 1 (fun i v => i = 0 ∧ v = .ref b) _ := {
          sub := W.sub, grefl := W.grefl, gtrans := W.gtrans, frame := W.frame, self := W.self, done := W.done
          item := fun i s Q E hi st hq => W.item i s Q E hi st fun v s' hv st' m => hq v s' (by
            have e : i = 0 := by omega
            subst e
            exact ⟨rfl, (Option.some.inj (show some (Value.ref b) = some v from hv)).symm⟩) st' m }
        have old : ∀ (c : Addr) (o : Obj), s.heap.get? c = some o → c ∉ [(s.heap.push (set0 w)).objs.size] := fun c o e m => ne_size2 e (List.mem_singleton.mp m)
        have up : ∀ (c : Addr) (o p : Obj), s.heap.get? c = some o → ((s.heap.push (set0 w)).push p).get? c = some o := fun c o p e => Heap.get?_push_of_some _ (Heap.get?_push_of_some _ e)
        refine update_one (k := k) (b := b) (A := A.in1.in1) W1 nS ⟨⟨_, Heap.get?_push_size _ rfl, rfl, rfl⟩, hl1.push _⟩ (Heap.get?_push_of_some _ hS) (hk.at fun a o vs n e _ => up a o _ e) (by simp only [Around.in1_units]; omega)
          (fun s' m => hk.at fun a o vs n e _ => m.heap a o (old a o e) (up a o _ e)) fun s' m one => ?_
        obtain ⟨h', g2, d', tk', os'⟩ := s'
        have eg : g2 = s.gens := m.gens
        have ed : d' = s.drawn := m.drawn
        have eo : os' = s.os := m.os
        subst eg ed eo
        show wpAny _ _ _ _ _ _
        refine wpAny_pure ?_
        show wpAny _ _ (ret Value.none) _ _ _
        refine wpAny_pure ⟨rfl, h', tk', rfl, one, fun c o e => m.heap c o (fun q => ?_) (up c o _ e)⟩
        rcases List.mem_cons.mp q with z | z
        · exact ne_size e z
        · exact old c o e z
      · cases r₂ with
        | error e => exact hr₂
        | ok fl₂ =>
          cases fl₂ with
          | ret r =>
            obtain ⟨rfl, h', tk, rfl, one, hk'⟩ := hr₂
            repeat (any_goals (first | assumption | wp_step))
            exact h _ _ one hk'
          | _ => exact hr₂.elim
    | _ => exact hr.elim
end
end Sh
/-! ShM: len(set(t)) in the small language. -/
set_option linter.all false
set_option autoImplicit false
set_option maxRecDepth 100000
set_option maxHeartbeats 2000000
namespace Sh
open PySem PySem.Spec PyProof.Rows L2
section
variable {P : Pg} {X : Cx} {e1 : Expr} {a : E} {pos : Pos}
mutual
theorem key_of {K : PySem.W.Frag} {Z : Addr → Prop} {pins : List (Addr × Obj)} {σ : L2.St} {H : Hp} {s : Shared} (I : Inv X pins σ H s) : ∀ {v : V} {d : PyData} {k : NestedKey} {u : Value}, DZ X.K Z H v d → nkD d = some k → RelV v u → NestedIs s.heap k u
  | _, _, k, u, .non, e, r => by cases e; cases r; exact .none
  | _, _, k, u, .bl b, e, r => by cases e; cases r; exact .bool rfl
  | _, _, k, u, .int i, e, r => by
    cases e
    obtain ⟨t, rfl⟩ := r
    exact .int i t
  | _, _, k, u, .str x, e, r => by
    cases e
    obtain ⟨t, rfl⟩ := r
    exact .text x t
  | _, _, k, u, @DZ.tup _ _ _ a xs ds h hs, e, r => by
    obtain ⟨ks, e1, rfl⟩ := mapf (show (nkDs ds).map NestedKey.tup = some k from e)
    cases r
    obtain ⟨its, rv, ⟨o, ho, hc, n, hd⟩, hz⟩ := I.tuple h
    exact .tup ho hc hd (keys_of (K := K) I hs e1 (by simpa using rv))
  | _, _, k, u, .lst h z hs, e, r => by cases e
  | _, _, k, u, .emp h, e, r => by cases e
theorem keys_of {K : PySem.W.Frag} {Z : Addr → Prop} {pins : List (Addr × Obj)} {σ : L2.St} {H : Hp} {s : Shared} (I : Inv X pins σ H s) : ∀ {vs : List V} {ds : List PyData} {ks : List NestedKey} {us : List Value}, DZs X.K Z H vs ds → nkDs ds = some ks → Vals vs us → NestedAll s.heap ks us
  | _, _, ks, us, .nil, e, r => by cases e; cases r; exact .nil
  | _, _, ks, us, @DZs.cons _ _ _ v vs d ds h hs, e, r => by
    obtain ⟨k, e1, e2⟩ := Option.bind_eq_some_iff.mp (show ((nkD d).bind fun k => (nkDs ds).map (k :: ·)) = some ks from e)
    obtain ⟨ks', e3, rfl⟩ := mapf e2
    cases r with
    | cons r1 r2 => exact .cons (key_of (K := K) I h e1 r1) (keys_of (K := K) I hs e3 r2)
end
theorem sE_lenset {p p2 q : Pos} (G : Good P X) (hg : Gl X "len") (hg2 : Gl X "set") (ha : PE X e1 (tE P X a)) (hp : starEach [e1] X.env = (false, eval e1 X.env) :: starEach [] X.env) :
    PE X (.Call (.Name "len" p) [.Call (.Name "set" p2) [e1] [] q] [] pos) (tE P X (.blt .lenset (.cons a .nil))) := ⟨fun pins st σ H Q I ⟨g, sl, s, r, s', cs, sr, ev, k⟩ => by
  obtain ⟨vs, s1, el, q1⟩ := O.bind_ok ev
  obtain ⟨x, s2, ea, q2⟩ := O.bind_ok (show ((evE P a sl s).bind fun x s => (evL P .nil sl s).bind fun xs s => .ok (x :: xs) s) = O.ok vs s1 from el)
  obtain ⟨rfl, rfl⟩ := ok_inj (show O.ok [x] s2 = O.ok vs s1 from q2)
  refine Call_ (ld_blt I hg (G.free _ (by decide)) PySem.boot_len (PyProof.Rows.callWith_builtin1 (PyProof.Rows.args_cons ?_ rfl) rfl rfl))
  refine Call_ (ld_blt I hg2 (G.free _ (by decide)) PyProof.Rows.boot_set (PyProof.Rows.callWith_type1 (PyProof.Rows.args_cons ?_ hp) hp rfl))
  have shape : ∃ ds ks, x = .p (.tuple [.tuple ds]) ∧ nkDs ds = some ks ∧ Nat.ble (NestedKey.tup ks).depth 40 = true ∧ r = .p (.int 1) ∧ s' = s2 := by
    cases x with
    | p d =>
      cases d with
      | tuple es =>
        match es, q1 with
        | [.tuple ds], q1 =>
          have q1 : (match nkDs ds with | some ks => if Nat.ble (NestedKey.tup ks).depth 40 = true then O.ok (Vl.p (.int 1)) s2 else .bad | none => .bad) = O.ok r s' := q1
          cases e : nkDs ds with
          | none => rw [e] at q1; cases q1
          | some ks =>
            rw [e] at q1
            have q1 : (if Nat.ble (NestedKey.tup ks).depth 40 = true then O.ok (Vl.p (.int 1)) s2 else .bad) = O.ok r s' := q1
            split at q1
            · rename_i hd
              obtain ⟨rfl, rfl⟩ := ok_inj q1
              exact ⟨ds, ks, rfl, e, hd, rfl, rfl⟩
            · cases q1
        | [.none], q1 => cases q1
        | [.bool _], q1 => cases q1
        | [.int _], q1 => cases q1
        | [.str _], q1 => cases q1
        | [.list _], q1 => cases q1
        | [.dict _], q1 => cases q1
        | [], q1 => cases q1
        | d :: _ :: _, q1 => cases d <;> cases q1
      | _ => cases q1
    | _ => cases q1
  obtain ⟨ds, ks, rfl, hks, hdep, rfl, rfl⟩ := shape
  refine thn (ha.run pins st σ H (fun v H' => ∃ g1, Mo g H g1 H' ∧ CS X.K X.mg g1 s' H' ∧ RL X.K X.mg g1 H' (.p (.tuple [.tuple ds])) v) I (one_ cs sr ea fun g1 v1 H1 m c r => ⟨g1, m, c, r⟩)) fun v s3 ⟨v1, H1, I1, rv, g1, m1, c1, r1⟩ => PyProof.Rows.args_nil ?_
  cases r1.dz with
  | tup h hs =>
    cases hs with
    | cons hd hr =>
      cases hr
      cases hd with
      | tup h2 hs2 =>
        cases rv
        obtain ⟨its, rvs, ht, hz⟩ := I1.tuple h
        obtain ⟨u, rfl, ru⟩ := vals1 rvs
        cases ru
        have key := key_of (K := X.K) I1 (DZ.tup (Z := g1.Z) h2 hs2) (k := .tup ks) (by show (nkDs ds).map NestedKey.tup = _; rw [hks]; rfl) (show RelV (V.ref _) (Value.ref _) from rfl)
        have hu := G.units
        have hdep := Nat.le_of_ble_eq_true hdep
        refine call_set_one (I1.ok.hd G.calm) ht key (by omega) fun h' tk one keep => PyProof.Rows.args_nil ?_
        obtain ⟨o, es, ep, t, ho, hex, hdt, hf, hn⟩ := one
        have I2 : Inv X pins σ H1 { s3 with heap := h', toks := tk } := I1.kept fun b o e => keep b o e
        exact call_len_set ho hex hdt hf (by rw [hn]; decide) ⟨.int 1, H1, I2.tok _, ⟨_, by rw [hn]; rfl⟩, k g1 _ H1 m1 c1 (.p (.int 1))⟩⟩
end
end Sh
/-! Sh7: calls of built-in functions, of methods. -/
set_option linter.all false
set_option autoImplicit false
set_option maxRecDepth 100000
set_option maxHeartbeats 1000000
namespace Sh
open PySem PySem.Spec PyProof.Rows L2
section
variable {P : Pg} {X : Cx} {e1 e2 e3 : Expr} {a b c o : E} {pos : Pos} {es : List Expr} {l : L}

/-! ### trees without stars -/
def plainX : Expr → Bool
  | .Starred _ _ => false
  | _ => true
def plainXs : List Expr → Bool
  | [] => true
  | e :: r => plainX e && plainXs r
theorem starEach_plain {e : Expr} {env : Env} (h : plainX e = true) : starEach (e :: es) env = (false, eval e env) :: starEach es env := by
  cases e <;> first | rfl | cases h
theorem starEach_none {env : Env} : ∀ {es : List Expr}, plainXs es = true → (backTo pos (starEach es env)).any (·.1) = false
  | [], _ => rfl
  | e :: r, h => by
    obtain ⟨h1, h2⟩ := and2 (show (plainX e && plainXs r) = true from h)
    rw [starEach_plain h1]
    exact starEach_none (es := r) h2
theorem starEach_all {env : Env} : ∀ {es : List Expr}, plainXs es = true → (backTo pos (starEach es env)).all (fun x => !x.1) = true
  | [], _ => rfl
  | e :: r, h => by
    obtain ⟨h1, h2⟩ := and2 (show (plainX e && plainXs r) = true from h)
    rw [starEach_plain h1]
    exact starEach_all (es := r) h2

/-! ### built-in functions -/
def bname : B → Str
  | .len => "len" | .abs => "abs" | .max2 => "max" | .min2 => "min" | .intOf => "int" | .all => "all" | .any => "any" | .sum => "sum" | .tuple => "tuple" | .list => "list" | .gcd => "gcd"
  | .repr => "repr" | .isinst => "isinstance" | .divmod => "divmod" | .sorted => "sorted" | .lenset => ""
def isBfun : B → Bool
  | .intOf => false | .tuple => false | .list => false | .gcd => false | .lenset => false
  | _ => true
def bid : B → String
  | .len => "len" | .abs => "abs" | .max2 => "max" | .min2 => "min" | .all => "all" | .any => "any" | .sum => "sum"
  | .repr => "repr" | .isinst => "isinstance" | .divmod => "divmod" | .sorted => "sorted" | _ => ""
theorem boot_bfun {q : B} (h : isBfun q = true) : bootBuiltins (bname q) = some (.builtin (bid q)) ∧ bval q = .builtin (bid q) ∧ bname q ≠ "__name__" ∧ (bname q == ("__debug__" : Str)) = false ∧ bname q ∈ bltNames := by
  cases q <;> first | exact Bool.noConfusion h | exact ⟨by decide +kernel, rfl, by decide, by decide, by decide⟩
def isBty : B → Bool
  | .intOf => true | .tuple => true | .list => true
  | _ => false
def bty : B → String
  | .intOf => "int" | .tuple => "tuple" | _ => "list"
theorem boot_bty {q : B} (h : isBty q = true) : bootBuiltins (bname q) = some (.type (bty q)) ∧ bval q = .type (bty q) ∧ bname q ≠ "__name__" ∧ (bname q == ("__debug__" : Str)) = false ∧ bname q ∈ bltNames := by
  cases q <;> first | exact Bool.noConfusion h | exact ⟨by decide +kernel, rfl, by decide, by decide, by decide⟩
theorem pe_blt {q : B} {x : Str} {p : Pos} {r : List V → Hp → VK → Prop} {t : TA} (G : Good P X) (hx : bname q = x) (hq : q ≠ .lenset) (hg : Gl X x) (hc : CallR X (bval q) r) (ha : PA X (e1 :: es) t)
    (he : starEach (e1 :: es) X.env = (false, eval e1 X.env) :: starEach es X.env) (hpl : (backTo pos (starEach es X.env)).any (·.1) = false) : PE X (.Call (.Name x p) (e1 :: es) [] pos) (tCB r t) := by
  subst hx
  cases h1 : isBfun q with
  | true =>
    obtain ⟨b1, b2, b3, b4, b5⟩ := boot_bfun h1
    rw [b2] at hc
    exact pe_callB hc hg (G.free _ b5) b1 ha b3 b4 he hpl
  | false =>
    cases h2 : isBty q with
    | true =>
      obtain ⟨b1, b2, b3, b4, b5⟩ := boot_bty h2
      rw [b2] at hc
      exact pe_callTy hc hg (G.free _ b5) b1 ha b3 b4 he hpl
    | false =>
      cases q with
      | gcd => exact pe_callBfun hc hg G.gcd ha (by decide) he hpl
      | lenset => exact absurd rfl hq
      | _ => first | exact Bool.noConfusion h1 | exact Bool.noConfusion h2
theorem sE_blt {q : B} {x : Str} {p : Pos} (G : Good P X) (hx : bname q = x) (hq : q ≠ .lenset) (hg : Gl X x) (hl : PA X (e1 :: es) (tL P X l))
    (he : starEach (e1 :: es) X.env = (false, eval e1 X.env) :: starEach es X.env) (hpl : (backTo pos (starEach es X.env)).any (·.1) = false) : PE X (.Call (.Name x p) (e1 :: es) [] pos) (tE P X (.blt q l)) :=
  ⟨fun pins st σ H Q I ⟨g, sl, s, r, s', cs, sr, e, k⟩ => by
    obtain ⟨vs, s1, el, e2⟩ := O.bind_ok e
    obtain ⟨rr, hc, w⟩ := bltV_ok G hq e2
    refine (pe_blt G hx hq hg hc hl he hpl).run pins st σ H Q I ⟨g, sl, s, vs, s1, cs, sr, el, fun g1 us H1 m1 c1 r1 => ?_⟩
    exact w g1 H1 us Q c1 r1 fun g2 v H2 m2 c2 r2 => k g2 v H2 (m1.trans m2) c2 r2⟩

/-! ### methods -/
def mname : M → Str
  | .split => "split" | .join => "join" | .upper => "upper" | .lstrip => "lstrip" | .index => "index" | .splitMax => "split" | .append => "append" | .pop => "pop" | .extend => "extend" | .count => "count"
def mid : M → String
  | .split => "str.split" | .join => "str.join" | .upper => "str.upper" | .lstrip => "str.lstrip" | .index => "str.index" | .splitMax => "str.split" | .append => "list.append" | .pop => "list.pop" | .extend => "list.extend" | .count => "list.count"
structure MF (m : M) : Prop where
  pa : PlainAttrs (mthT m)
  slot : Slot (mthT m) (mname m) (mid m)
  ty : typeOf (.builtin (mid m)) = pure (.type "method_descriptor")
theorem mf (m : M) : MF m := by
  cases m with
  | split => exact ⟨F.plainAttrs_str, F.slot_str_split, F.type_str_split⟩
  | splitMax => exact ⟨F.plainAttrs_str, F.slot_str_split, F.type_str_split⟩
  | join => exact ⟨F.plainAttrs_str, F.slot_str_join, F.type_str_join⟩
  | upper => exact ⟨F.plainAttrs_str, F.slot_str_upper, F.type_str_upper⟩
  | lstrip => exact ⟨F.plainAttrs_str, F.slot_str_lstrip, F.type_str_lstrip⟩
  | index => exact ⟨F.plainAttrs_str, F.slot_str_index, F.type_str_index⟩
  | append => exact ⟨F.plainAttrs_list, F.slot_list_append, F.type_list_append⟩
  | pop => exact ⟨F.plainAttrs_list, F.slot_list_pop, F.type_list_pop⟩
  | extend => exact ⟨F.plainAttrs_list, F.slot_list_extend, F.type_list_extend⟩
  | count => exact ⟨F.plainAttrs_list, F.slot_list_count, F.type_list_count⟩
/-- l.count(x) of data -/
theorem mt_countD (hu : X.A.units + 65 < cLine) : MtR X "list.count" (fun x xs H Q => ∃ (p : Addr) (y : V) (d : PyData) (ds : List PyData), x = V.ref p ∧ xs = [y] ∧ Dp X.K H (V.ref p) (.list ds) ∧ Dp X.K H y d ∧
    SeqAt.shaped (.list ds) = true ∧ SeqAt.shaped d = true ∧ Q (.int ((ds.countP fun z => PyData.eqv z d : Nat) : Int)) H) := by
  intro pins s σ H x xs v us Q I rx rxs h
  obtain ⟨p, y, d, ds, rfl, rfl, hl, hy, sl, sd, q⟩ := h
  cases rx
  obtain ⟨u, rfl, ru⟩ := rxs.one
  obtain ⟨bs, r1⟩ := Dp.reads I d y u hy ru
  have lay : PyData.canLayAll0 ds = true := SeqAt.canLay_of_shaped sl
  have room : X.A.units + 1 + min (PyData.depthAll ds) d.depth < cLine := room_in_shaped sd hu
  cases hl with
  | lst hs ha =>
    obtain ⟨its, rv, ⟨⟨cls, dd, data, slo⟩, n, ho, hc, hdn, hd⟩, hlen⟩ := I.list hs
    simp only at hc hd
    subst hc hd
    obtain ⟨as, h4⟩ := Dp.readsAll I ds _ its ha rv
    have em : its.map (SeqAt.readOf s.heap) = ds := SeqAt.readsAll_map ds its as lay h4
    have ec : its.countP (fun u => PyData.eqv (SeqAt.readOf s.heap u) d) = ds.countP fun z => PyData.eqv z d := by
      rw [← em, List.countP_map]
      rfl
    refine call_meets PySem.F.slot_list_count ⟨_, ho, rfl⟩ PySem.F.entry_list_count (PySem.F.args_list_count_2 _ _)
      (SeqAt.list_countAt p its.toArray n dd slo u (fun u => PyData.eqv (SeqAt.readOf s.heap u) d)) ⟨ho, SeqAt.items_eqAt (vs := its.toArray) (show ReadsAll s.heap its.toArray.toList ds as from h4) r1 lay (SeqAt.canLay_of_shaped sd) room, ?_⟩
    refine ⟨.int _, H, I.tok _, ⟨s.toks, ?_⟩, q⟩
    show Value.int ((its.countP (fun u => PyData.eqv (SeqAt.readOf s.heap u) d) : Nat) : Int) s.toks = _
    rw [ec]
def MthIs (X : Cx) (m : M) (o : Vl) (vs : List Vl) (s s' : Cells) (r : Vl) : Prop := ∃ rr : L2.St → V → List V → Hp → VK → Prop, MtS X (mid m) rr ∧
  ∀ (g : Gh) (H : Hp) (σ : L2.St) (u : V) (us : List V) (Q : VK), CS X.K X.mg g s H → RL X.K X.mg g H o u → RLs X.K X.mg g H vs us →
    (∀ g' v H', Mo g H g' H' → CS X.K X.mg g' s' H' → RL X.K X.mg g' H' r v → Q v H') → rr σ u us H Q
theorem rls0 {K : PySem.W.Frag} {mg : Str → Option Value} {g : Gh} {H : Hp} {us : List V} (r : RLs K mg g H [] us) : us = [] := by
  cases r; rfl
theorem newStrs {g : Gh} {H : Hp} {s : Cells} {Q : VK} {ys : List Str} (cs : CS X.K X.mg g s H)
    (k : ∀ g' v H', Mo g H g' H' → CS X.K X.mg g' s H' → RL X.K X.mg g' H' (.p (.list (ys.map .str))) v → Q v H') : rNewStrs ys H Q := newLst .refl cs (dz_strs ys) k
theorem takes0 : Takes X (fun _ _ _ _ => False) := fun u s' ⟨a, B, sI, pins, σ, H, cls, d, e, I, nb, up, sky, na, os, ag, w⟩ => w.elim
/-- a cell's list -/
theorem cell_at {g : Gh} {H : Hp} {s : Cells} {n : Nat} {xs : List Vl} {u : V} (cs : CS X.K X.mg g s H) (r : RL X.K X.mg g H (.ref n) u) (h : s[n]? = some (.lst xs)) : ∃ p vs, u = .ref p ∧ g.rho[n]? = some p ∧ H p = some (.lst vs) ∧ RLs X.K X.mg g H xs vs := by
  cases r with
  | ref hr =>
    obtain ⟨vs, e, q⟩ := cs.at_ n _ _ h hr
    exact ⟨_, vs, rfl, hr, e, q⟩
theorem getLast_rls {K : PySem.W.Frag} {mg : Str → Option Value} {g : Gh} {H : Hp} {xs : List Vl} {vs : List V} {y : Vl} (r : RLs K mg g H xs vs) (h : xs[xs.length - 1]? = some y) : ∃ u, vs[vs.length - 1]? = some u ∧ RL K mg g H y u := by
  rw [← r.length]
  exact r.get h
theorem mthV_ok (G : Good P X) {m : M} {ov : Vl} {vs : List Vl} {s s' : Cells} {r : Vl} (e : mthV P m ov vs s = .ok r s') : MthIs X m ov vs s s' r := by
  unfold mthV at e
  split at e
  · -- split
    rename_i a b
    split at e
    · rename_i h1
      obtain ⟨rfl, rfl⟩ := ok_inj e
      obtain ⟨h1, h2⟩ := and2 h1
      refine ⟨_, mt_split.toS, fun g H σ u us Q cs ro rs k => ?_⟩
      obtain ⟨u1, rfl, r1⟩ := rls1 rs
      cases ro.dz; cases r1.dz
      exact ⟨a, b, rfl, rfl, by simpa using h1, Nat.le_of_ble_eq_true h2, newStrs cs k⟩
    · cases e
  · -- join
    rename_i a xs
    split at e
    · rename_i ys hy
      split at e
      · rename_i h1
        obtain ⟨rfl, rfl⟩ := ok_inj e
        refine ⟨_, mt_join.toS, fun g H σ u us Q cs ro rs k => ?_⟩
        obtain ⟨u1, rfl, r1⟩ := rls1 rs
        cases ro.dz
        cases r1.dz with
        | lst h z hs =>
          rw [strs_dz hy hs] at h
          exact ⟨a, _, ys, rfl, rfl, .inl (SqL.of h), Nat.le_of_ble_eq_true h1, k g _ H .refl cs (.p (.str _))⟩
      · cases e
    · cases e
  · -- splitMax
    rename_i a b n
    split at e
    · rename_i h1
      obtain ⟨rfl, rfl⟩ := ok_inj e
      obtain ⟨h1, h4⟩ := and2 h1
      obtain ⟨h1, h3⟩ := and2 h1
      obtain ⟨h1, h2⟩ := and2 h1
      have h2 := of_decide_eq_true h2
      have h3 := of_decide_eq_true h3
      refine ⟨_, mt_splitMax.toS, fun g H σ u us Q cs ro rs k => ?_⟩
      obtain ⟨u1, u2, rfl, r1, r2⟩ := rls2 rs
      cases ro.dz; cases r1.dz; cases r2.dz
      exact ⟨a, b, n, rfl, rfl, by simpa using h1, by omega, by omega, Nat.le_of_ble_eq_true h4, newStrs cs k⟩
    · cases e
  · -- lstrip
    rename_i a b
    split at e
    · rename_i h1
      obtain ⟨rfl, rfl⟩ := ok_inj e
      refine ⟨_, mt_lstripChars.toS, fun g H σ u us Q cs ro rs k => ?_⟩
      obtain ⟨u1, rfl, r1⟩ := rls1 rs
      cases ro.dz; cases r1.dz
      exact ⟨a, b, rfl, rfl, Nat.le_of_ble_eq_true h1, k g _ H .refl cs (.p (.str _))⟩
    · cases e
  · -- index
    rename_i a b
    split at e
    · rename_i n hn
      obtain ⟨rfl, rfl⟩ := ok_inj e
      refine ⟨_, mt_indexX G.calm takes0, fun g H σ u us Q cs ro rs k => ?_⟩
      obtain ⟨u1, rfl, r1⟩ := rls1 rs
      cases ro.dz; cases r1.dz
      refine ⟨a, b, rfl, rfl, fun j hj => ?_, fun h0 => ?_⟩
      · rw [hn] at hj; cases hj
        exact k g _ H .refl cs (.p (.int _))
      · rw [hn] at h0; cases h0
    · cases e
  · -- upper
    rename_i a
    split at e
    · rename_i h1
      obtain ⟨rfl, rfl⟩ := ok_inj e
      refine ⟨_, mt_upper.toS, fun g H σ u us Q cs ro rs k => ?_⟩
      cases rls0 rs
      cases ro.dz
      exact ⟨a, rfl, rfl, Nat.le_of_ble_eq_true h1, k g _ H .refl cs (.p (.str _))⟩
    · cases e
  · -- append
    rename_i n v
    split at e
    · rename_i xs hx
      split at e
      · rename_i h1
        obtain ⟨rfl, rfl⟩ := ok_inj e
        refine ⟨_, MtR.toS (r0 := rAppend) mt_append, fun g H σ u us Q cs ro rs k => ?_⟩
        obtain ⟨u1, rfl, r1⟩ := rls1 rs
        obtain ⟨p, ws, rfl, hr, hp, rw'⟩ := cell_at cs ro hx
        refine ⟨p, ws, u1, rfl, rfl, hp, by rw [← rw'.length]; exact Nat.le_of_ble_eq_true h1, ?_⟩
        exact k g _ _ (Mo.upd hr (cs.zr n _ p hx hr) hp) (cs.put hx hr hp (rw'.append (.cons r1 .nil))) (.p .non)
      · cases e
    · cases e
  · -- pop
    rename_i n
    split at e
    · rename_i xs hx
      split at e
      · rename_i y hy
        obtain ⟨rfl, rfl⟩ := ok_inj e
        refine ⟨_, MtR.toS (r0 := rPop) mt_pop, fun g H σ u us Q cs ro rs k => ?_⟩
        cases rls0 rs
        obtain ⟨p, ws, rfl, hr, hp, rw'⟩ := cell_at cs ro hx
        obtain ⟨w, hw, ry⟩ := getLast_rls rw' hy
        have m : Mo g H g (upd H p (.lst ws.dropLast)) := Mo.upd hr (cs.zr n _ p hx hr) hp
        exact ⟨p, ws, w, rfl, rfl, hp, hw, k g _ _ m (cs.put hx hr hp rw'.dropLast) (m.rl ry)⟩
      · cases e
    · cases e
  · -- count
    rename_i ds d
    split at e
    · rename_i h1
      obtain ⟨rfl, rfl⟩ := ok_inj e
      obtain ⟨h1, h4⟩ := and2 h1
      obtain ⟨h1, h3⟩ := and2 h1
      obtain ⟨h1, h2⟩ := and2 h1
      refine ⟨_, (mt_countD G.units).toS, fun g H σ u us Q cs ro rs k => ?_⟩
      obtain ⟨u1, rfl, r1⟩ := rls1 rs
      cases ro.dz with
      | lst h z hs => exact ⟨_, u1, d, ds, rfl, rfl, .lst (SqL.of h) (hs.dp h4), r1.dz.dp h3, h2, h1, k g _ H .refl cs (.p (.int _))⟩
    · cases e
  · -- extend
    rename_i n ys
    split at e
    · rename_i xs hx
      split at e
      · rename_i h1
        obtain ⟨rfl, rfl⟩ := ok_inj e
        refine ⟨_, MtR.toS (r0 := rExtend) mt_extend, fun g H σ u us Q cs ro rs k => ?_⟩
        obtain ⟨u1, rfl, r1⟩ := rls1 rs
        obtain ⟨p, ws, rfl, hr, hp, rw'⟩ := cell_at cs ro hx
        cases r1.dz with
        | lst h z hs =>
          refine ⟨p, _, ws, _, rfl, rfl, hp, h, ?_, k g _ _ (Mo.upd hr (cs.zr n _ p hx hr) hp) (cs.put hx hr hp (rw'.append (RLs.of_dz hs))) (.p .non)⟩
          rw [← rw'.length, hs.length]
          exact Nat.le_of_ble_eq_true h1
      · cases e
    · cases e
  · cases e
theorem tyOkV_ok {m : M} {ov : Vl} {s : Cells} {g : Gh} {H : Hp} {u : V} (cs : CS X.K X.mg g s H) (r : RL X.K X.mg g H ov u) (h : tyOkV m ov s = true) : tyV X.K (mthT m) u H := by
  cases ov with
  | p d =>
    cases d with
    | str z =>
      cases r.dz
      exact of_decide_eq_true (p := mthT m = "str") h
    | list ds =>
      cases r.dz with
      | lst h' z hs => exact .inl ⟨of_decide_eq_true h, _, SqL.of h'⟩
    | _ => cases h
  | ref n =>
    obtain ⟨h1, h2⟩ := and2 (show (decide (mthT m = "list") && (match s[n]? with | some (.lst _) => true | _ => false)) = true from h)
    cases q : s[n]? with
    | none => rw [q] at h2; cases h2
    | some o =>
      rw [q] at h2
      cases o with
      | dead => cases h2
      | lst xs =>
        obtain ⟨p, vs, rfl, hr, hp, _⟩ := cell_at cs r q
        exact .inl ⟨of_decide_eq_true h1, vs, SqL.of hp⟩
  | _ => cases h
/-- o.m(), o.m(e, ..) -/
theorem pe_bm0S {T id : String} {name : Str} {oe : Expr} {to : TE} {apos cpos : Pos} {r : L2.St → V → List V → Hp → VK → Prop} (pa : PlainAttrs T) (slot : Slot T name id) (hty : typeOf (.builtin id) = pure (.type "method_descriptor")) (hm : MtS X id r) (ho : PE X oe to)
    (hbase : attributeBase oe name X.env (eval oe X.env) = eval oe X.env) (hline : (apos.endLine == cpos.line) = true) : PE X (.Call (.Attribute oe name apos) [] [] cpos) (fun σ H Q => to σ H fun x H1 => tyV X.K T x H1 ∧ r σ x [] H1 Q) := by
  refine ⟨fun pins s σ H Q I h => wpAny_Call_method0_late hbase hline (thn (ho.run pins s σ H _ I h) fun v s1 ⟨x, H1, I1, r1, ty, q1⟩ => ?_)⟩
  obtain ⟨t1, t2⟩ := tyV_is I1 r1 ty
  exact ⟨T, id, pa, slot, hty, t1, t2, Calls.callWith_builtin rfl (PySem.evalArgs_none (hm pins s1 σ H1 x [] v [] Q I1 r1 .nil q1))⟩
def notCall0 : Expr → Bool
  | .Call (.Name _ _) [] [] _ => false
  | _ => true
theorem attrBase_plain {oe : Expr} {name : Str} {env : Env} {m : Sem Value} (h : notCall0 oe = true) : attributeBase oe name env m = m := by
  unfold attributeBase
  split
  · cases h
  · rfl
theorem mth_parts {m : M} {sl : Sl} {s s' : Cells} {r : Vl} (e : evE P (.mth m o l) sl s = .ok r s') : ∃ x s1 vs s2, evE P o sl s = .ok x s1 ∧ tyOkV m x s1 = true ∧ evL P l sl s1 = .ok vs s2 ∧ mthV P m x vs s2 = .ok r s' := by
  obtain ⟨x, s1, eo, q1⟩ := O.bind_ok e
  have q1 : (match tyOkV m x s1 with
      | true => (evL P l sl s1).bind fun vs s => mthV P m x vs s
      | false => .bad) = O.ok r s' := q1
  cases ht : tyOkV m x s1 with
  | false => rw [ht] at q1; cases q1
  | true =>
    rw [ht] at q1
    obtain ⟨vs, s2, el, q2⟩ := O.bind_ok q1
    exact ⟨x, s1, vs, s2, eo, ht, el, q2⟩
theorem sE_mth0 {m : M} {oe : Expr} {apos cpos : Pos} (G : Good P X) (ho : PE X oe (tE P X o)) (hb : notCall0 oe = true) (hline : (apos.endLine == cpos.line) = true) :
    PE X (.Call (.Attribute oe (mname m) apos) [] [] cpos) (tE P X (.mth m o .nil)) := ⟨fun pins st σ H Q I ⟨g, sl, s, r, s', cs, sr, e, k⟩ => by
  obtain ⟨x, s1, vs, s2, eo, ht, el, em⟩ := mth_parts e
  obtain ⟨rfl, rfl⟩ := ok_inj (show O.ok ([] : List Vl) s1 = O.ok vs s2 from el)
  obtain ⟨rr, hc, w⟩ := mthV_ok G em
  refine (pe_bm0S (mf m).pa (mf m).slot (mf m).ty hc ho (attrBase_plain hb) hline).run pins st σ H Q I (one_ cs sr eo fun g1 v1 H1 m1 c1 r1 => ⟨tyOkV_ok c1 r1 ht, ?_⟩)
  exact w g1 H1 σ v1 [] Q c1 r1 .nil fun g2 v H2 m2 c2 r2 => k g2 v H2 (m1.trans m2) c2 r2⟩
theorem sE_mth {m : M} {oe : Expr} {apos cpos : Pos} (G : Good P X) (ho : PE X oe (tE P X o)) (hl : PA X (e1 :: es) (tL P X l)) (hb : notCall0 oe = true) (hline : (apos.endLine == cpos.line) = true)
    (hp : plainXs (e1 :: es) = true) (hn : decide ((e1 :: es).length < 30) = true) :
    PE X (.Call (.Attribute oe (mname m) apos) (e1 :: es) [] cpos) (tE P X (.mth m o l)) := ⟨fun pins st σ H Q I ⟨g, sl, s, r, s', cs, sr, e, k⟩ => by
  obtain ⟨x, s1, vs, s2, eo, ht, el, em⟩ := mth_parts e
  obtain ⟨rr, hc, w⟩ := mthV_ok G em
  obtain ⟨p1, p2⟩ := and2 (show (plainX e1 && plainXs es) = true from hp)
  refine (pe_bmS (mf m).pa (mf m).slot (mf m).ty hc ho hl (attrBase_plain hb) ?_ hline (starEach_plain p1) (starEach_none p2)).run pins st σ H Q I ?_
  · rw [starEach_all hp]
    exact hn
  · refine one_ cs sr eo fun g1 v1 H1 m1 c1 r1 => ⟨tyOkV_ok c1 r1 ht, g1, sl, s1, vs, s2, c1, m1.sr sr, el, fun g2 us H2 m2 c2 r2 => ?_⟩
    exact w g2 H2 σ v1 us Q c2 (m2.rl r1) r2 fun g3 v H3 m3 c3 r3 => k g3 v H3 ((m1.trans m2).trans m3) c3 r3⟩
theorem sE_emp : PE X (.Dict [] [] pos) (tE P X .emp) := pe_dnewK.imp fun σ H Q ⟨g, sl, s, r, s', cs, sr, e, k⟩ => by
  cases e
  exact fun p hp => k g _ _ (Mo.alloc hp) (cs.alloc hp) (.p (.emp upd_same))
end
end Sh
/-! Sh8: comparisons as tests, what a loop walks, targets. -/
set_option linter.all false
set_option autoImplicit false
set_option maxRecDepth 100000
set_option maxHeartbeats 1000000
namespace Sh
open PySem PySem.Spec PyProof.Rows L2
section
variable {P : Pg} {X : Cx} {e1 e2 e3 : Expr} {a b c o : E} {pos : Pos} {es : List Expr} {l : L}

/-! ### comparisons as tests -/
theorem cmp_read {o : COp} {σ : L2.St} {H : Hp} {Q : VK} (G : Good P X) (h : tE P X (.cmp o a b) σ H Q) : ∃ rr, OpR X (compareOp (copr o)) rr ∧ tOp rr (tE P X a) (tE P X b) σ H Q := by
  obtain ⟨g, sl, s, r, s', cs, sr, e, k⟩ := h
  obtain ⟨x, s1, ea, q1⟩ := O.bind_ok e
  obtain ⟨y, s2, eb, q2⟩ := O.bind_ok q1
  obtain ⟨d, s3, ed, q3⟩ := O.bind_ok q2
  obtain ⟨rfl, rfl⟩ := ok_inj (show O.ok (Vl.p (.bool d)) s3 = O.ok r s' from q3)
  obtain ⟨ed, rfl⟩ := lift_ok ed
  obtain ⟨rr, ho, hr⟩ := cmpV_ok G ed
  exact ⟨rr, ho, two cs sr ea eb fun g2 v1 v2 H2 m c2 r1 r2 => hr g2 H2 v1 v2 Q c2 r1 r2 (k g2 _ H2 m c2 (.p (.bl _)))⟩
def isB (e : E) : Prop := ∀ (P : Pg) (sl : Sl) (s s' : Cells) (x : Vl), evE P e sl s = .ok x s' → ∃ k, x = .p (.bool k)
theorem isB_cmp {o : COp} : isB (.cmp o a b) := fun P sl s s' x e => by
  obtain ⟨x1, s1, ea, q1⟩ := O.bind_ok e
  obtain ⟨y, s2, eb, q2⟩ := O.bind_ok q1
  obtain ⟨d, s3, ed, q3⟩ := O.bind_ok q2
  obtain ⟨rfl, rfl⟩ := ok_inj (show O.ok (Vl.p (.bool d)) s3 = O.ok x s' from q3)
  exact ⟨d, rfl⟩
theorem isB_chain {o o' : COp} : isB (.chain o o' a b c) := fun P sl s s' x e => by
  obtain ⟨x1, s1, ea, q1⟩ := O.bind_ok e
  obtain ⟨y, s2, eb, q2⟩ := O.bind_ok q1
  obtain ⟨d, s3, ed, q3⟩ := O.bind_ok q2
  cases d with
  | true =>
    obtain ⟨z, s4, ec, q4⟩ := O.bind_ok (show ((evE P c sl s3).bind fun z s => (lift (cmpV P o' y z s) s).bind fun k s => O.ok (Vl.p (.bool k)) s) = O.ok x s' from q3)
    obtain ⟨d2, s5, ed2, q5⟩ := O.bind_ok q4
    obtain ⟨rfl, rfl⟩ := ok_inj (show O.ok (Vl.p (.bool d2)) s5 = O.ok x s' from q5)
    exact ⟨d2, rfl⟩
  | false =>
    obtain ⟨rfl, rfl⟩ := ok_inj (show O.ok (Vl.p (.bool false)) s3 = O.ok x s' from q3)
    exact ⟨false, rfl⟩
theorem tE_of_tT {σ : L2.St} {H : Hp} {Q : Bool → Hp → Prop} (hb : isB a) (h : tT P X a σ H Q) : tE P X a σ H fun x H' => ∃ k, x = .bl k ∧ Q k H' := by
  obtain ⟨g, sl, s, r, s', cs, sr, e, k⟩ := h
  obtain ⟨x, ea, et⟩ := evT_ok e
  obtain ⟨d, rfl⟩ := hb P sl s s' x ea
  cases truth_bool et
  refine ⟨g, sl, s, _, s', cs, sr, ea, fun g1 v1 H1 m1 c1 r1 => ?_⟩
  cases r1.dz
  exact ⟨_, rfl, k g1 H1 m1 c1⟩
theorem sT_cmp {o : COp} (G : Good P X) (ha : PE X e1 (tE P X a)) (hb : PE X e2 (tE P X b)) (hm : behindInMarks (copr o) e2 = false) : PT X (.Compare e1 [copr o] [e2] pos) (tT P X (.cmp o a b)) := ⟨fun pins st σ H Q I h => by
  obtain ⟨rr, ho, q⟩ := cmp_read G (tE_of_tT isB_cmp h)
  exact (pt_cmpR ho ha hb hm).run pins st σ H Q I q⟩
theorem chain_read {o o' : COp} {σ : L2.St} {H : Hp} {Q : VK} (G : Good P X) (h : tE P X (.chain o o' a b c) σ H Q) : ∃ rr rr', OpR X (compareOp (copr o)) rr ∧ OpR X (compareOp (copr o')) rr' ∧ tChain rr rr' (tE P X a) (tE P X b) (tE P X c) σ H Q := by
  obtain ⟨g, sl, s, r, s', cs, sr, e, k⟩ := h
  obtain ⟨x, s1, ea, q1⟩ := O.bind_ok e
  obtain ⟨y, s2, eb, q2⟩ := O.bind_ok q1
  obtain ⟨d, s3, ed, q3⟩ := O.bind_ok q2
  obtain ⟨ed, rfl⟩ := lift_ok ed
  obtain ⟨rr, ho, hr⟩ := cmpV_ok G ed
  cases d with
  | true =>
    obtain ⟨z, s4, ec, q4⟩ := O.bind_ok (show ((evE P c sl s3).bind fun z s => (lift (cmpV P o' y z s) s).bind fun k s => O.ok (Vl.p (.bool k)) s) = O.ok r s' from q3)
    obtain ⟨d2, s5, ed2, q5⟩ := O.bind_ok q4
    obtain ⟨rfl, rfl⟩ := ok_inj (show O.ok (Vl.p (.bool d2)) s5 = O.ok r s' from q5)
    obtain ⟨ed2, rfl⟩ := lift_ok ed2
    obtain ⟨rr2, ho2, hr2⟩ := cmpV_ok G ed2
    refine ⟨rr, rr2, ho, ho2, two cs sr ea eb fun g2 v1 v2 H2 m c2 r1 r2 => hr g2 H2 v1 v2 _ c2 r1 r2 ⟨true, rfl, ?_⟩⟩
    rw [if_pos rfl]
    exact one_ c2 (m.sr sr) ec fun g3 v3 H3 m3 c3 r3 => hr2 g3 H3 v2 v3 _ c3 (m3.rl r2) r3 (k g3 _ H3 (m.trans m3) c3 (.p (.bl _)))
  | false =>
    obtain ⟨rfl, rfl⟩ := ok_inj (show O.ok (Vl.p (.bool false)) s3 = O.ok r s' from q3)
    refine ⟨rr, _, ho, op_never (f := compareOp (copr o')), two cs sr ea eb fun g2 v1 v2 H2 m c2 r1 r2 => hr g2 H2 v1 v2 _ c2 r1 r2 ⟨false, rfl, ?_⟩⟩
    rw [if_neg (by decide)]
    exact k g2 _ H2 m c2 (.p (.bl _))
theorem sT_chain {o o' : COp} (G : Good P X) (ha : PE X e1 (tE P X a)) (hb : PE X e2 (tE P X b)) (hc : PE X e3 (tE P X c)) (hm : lastMarks [copr o, copr o'] [e2, e3] = false) :
    PT X (.Compare e1 [copr o, copr o'] [e2, e3] pos) (tT P X (.chain o o' a b c)) := ⟨fun pins st σ H Q I h => by
  obtain ⟨rr, rr', ho, ho', q⟩ := chain_read G (tE_of_tT isB_chain h)
  exact (pt_chain ho ho' ha hb hc hm).run pins st σ H Q I q⟩

/-! ### what a loop walks -/
def Walk (K : PySem.W.Frag) (mg : Str → Option Value) (g : Gh) (H : Hp) (xs : List Vl) (J : It) : Prop := ∀ g1 H1, Mo g H g1 H1 →
  (∀ (i : Nat) (x : Vl), xs[i]? = some x → J.go i H1 ∧ ∀ v H2, J.yld i H1 v H2 → ∃ g2, Mo g1 H1 g2 H2 ∧ (∀ s, CS K mg g1 s H1 → CS K mg g2 s H2) ∧ RL K mg g2 H2 x v) ∧ J.stop xs.length H1
def tI (P : Pg) (X : Cx) (it : I) : TI := fun σ H R => ∃ g sl s xs s', CS X.K X.mg g s H ∧ SR X.K X.mg g H sl σ ∧ evI P it sl s = .ok xs s' ∧
  ∀ g' H' J, Mo g H g' H' → CS X.K X.mg g' s' H' → Walk X.K X.mg g' H' xs J → R J H'
section
variable {K : PySem.W.Frag} {mg : Str → Option Value} {g : Gh} {H : Hp}
theorem walk_list {p : Addr} {vs : List V} {ds : List PyData} (h : H p = some (.lst vs)) (z : g.Z p) (hs : DZs K g.Z H vs ds) : Walk K mg g H (ds.map .p) (Itl K p) := by
  intro g1 H1 m
  have h1 : SqL K H1 p vs := SqL.of (m.fd _ _ z h)
  refine ⟨fun i x e => ?_, ⟨vs, h1, by rw [hs.length, List.length_map]; exact Nat.le_refl _⟩⟩
  rw [List.getElem?_map] at e
  obtain ⟨d, e1, rfl⟩ := mapf e
  obtain ⟨u, e2, r⟩ := hs.get e1
  refine ⟨⟨vs, u, h1, e2⟩, fun v H2 y => ?_⟩
  obtain ⟨rfl, f⟩ := y
  have f1 := f vs h1
  rw [e2] at f1
  cases f1
  exact ⟨g1, .refl, fun _ c => c, .p (m.dz r)⟩
theorem walk_tup {p : Addr} {vs : List V} {ds : List PyData} (h : SqT K H p vs) (hs : DZs K g.Z H vs ds) : Walk K mg g H (ds.map .p) (Itt K p) := by
  intro g1 H1 m
  have h1 : SqT K H1 p vs := m.sqt h
  refine ⟨fun i x e => ?_, ⟨vs, h1, by rw [hs.length, List.length_map]; exact Nat.le_refl _⟩⟩
  rw [List.getElem?_map] at e
  obtain ⟨d, e1, rfl⟩ := mapf e
  obtain ⟨u, e2, r⟩ := hs.get e1
  refine ⟨⟨vs, u, h1, e2⟩, fun v H2 y => ?_⟩
  obtain ⟨rfl, f⟩ := y
  have f1 := f vs h1
  rw [e2] at f1
  cases f1
  exact ⟨g1, .refl, fun _ c => c, .p (m.dz r)⟩
theorem walk_str {z : Str} : Walk K mg g H (z.cps.toList.map fun c => Vl.p (.str ⟨#[c]⟩)) (Its z) := by
  intro g1 H1 m
  refine ⟨fun i x e => ?_, by show _ ≤ _; rw [List.length_map, Array.length_toList]; exact Nat.le_refl _⟩
  rw [List.getElem?_map] at e
  obtain ⟨d, e1, rfl⟩ := mapf e
  rw [Array.getElem?_toList] at e1
  refine ⟨(Array.getElem?_eq_some_iff.mp e1).1, fun v H2 y => ?_⟩
  obtain ⟨rfl, c, f, rfl⟩ := y
  rw [e1] at f
  cases f
  exact ⟨g1, .refl, fun _ c => c, .p (.str _)⟩
theorem walk_rng {lo : Int} {n : Nat} : Walk K mg g H (rngItems lo n) (Itr lo n) := by
  intro g1 H1 m
  have hl : (rngItems lo n).length = n := by unfold rngItems; rw [List.length_map, List.length_range]
  refine ⟨fun i x e => ?_, by show _ ≤ _; rw [hl]; exact Nat.le_refl _⟩
  have hi : i < n := by
    have := (List.getElem?_eq_some_iff.mp e).1
    rw [hl] at this; exact this
  refine ⟨hi, fun v H2 y => ?_⟩
  obtain ⟨rfl, rfl⟩ := y
  unfold rngItems at e
  rw [List.getElem?_map, List.getElem?_range hi] at e
  cases e
  exact ⟨g1, .refl, fun _ c => c, .p (.int _)⟩
end
theorem sI_val {tg : Expr} (ha : PE X e1 (tE P X a)) : PI X tg e1 (tI P X (.val a)) := ⟨fun pins st σ H R I ⟨g, sl, s, xs, s', cs, sr, e, k⟩ => by
  obtain ⟨x, s1, ea, q1⟩ := O.bind_ok e
  obtain ⟨ei, rfl⟩ := lift_ok q1
  cases x with
  | p d =>
    cases d with
    | list ds =>
      cases ei
      refine (pi_list ha).run pins st σ H R I (one_ cs sr ea fun g1 v1 H1 m1 c1 r1 => ?_)
      cases r1.dz with
      | lst h z hs => exact ⟨_, rfl, ⟨_, SqL.of h⟩, k g1 H1 _ m1 c1 (walk_list h z hs)⟩
    | tuple ds =>
      cases ei
      refine (pi_tup ha).run pins st σ H R I (one_ cs sr ea fun g1 v1 H1 m1 c1 r1 => ?_)
      cases r1.dz with
      | tup h hs => exact ⟨_, rfl, ⟨_, h⟩, k g1 H1 _ m1 c1 (walk_tup h hs)⟩
    | str z =>
      cases ei
      refine (pi_str ha).run pins st σ H R I (one_ cs sr ea fun g1 v1 H1 m1 c1 r1 => ?_)
      cases r1.dz
      exact ⟨z, rfl, k g1 H1 _ m1 c1 walk_str⟩
    | _ => cases ei
  | _ => cases ei⟩
theorem inRng_ok {i : Int} (h : inRng i = true) : -(2 ^ 62) ≤ i ∧ i < 2 ^ 62 := by
  obtain ⟨h1, h2⟩ := and2 h
  exact ⟨of_decide_eq_true h1, of_decide_eq_true h2⟩
theorem sI_rng1 {tg : Expr} {p : Pos} (G : Good P X) (hg : Gl X "range") (ha : PE X e1 (tE P X a)) (hp : plainX e1 = true) : PI X tg (.Call (.Name "range" p) [e1] [] pos) (tI P X (.rng1 a)) := ⟨fun pins st σ H R I ⟨g, sl, s, xs, s', cs, sr, e, k⟩ => by
  obtain ⟨x, s1, ea, q1⟩ := O.bind_ok e
  refine (pi_range1 hg (G.free _ (by decide)) (pa_cons ha pa_nil (starEach_plain hp)) (starEach_plain hp)).run pins st σ H R I (one_ cs sr ea fun g1 v1 H1 m1 c1 r1 => ?_)
  cases x with
  | p d =>
    cases d with
    | int i =>
      have q1 : (if inRng i = true then O.ok (rngItems 0 i.toNat) s1 else .bad) = .ok xs s' := q1
      split at q1
      · rename_i h1
        obtain ⟨rfl, rfl⟩ := ok_inj q1
        obtain ⟨h1, h2⟩ := inRng_ok h1
        cases r1.dz
        exact ⟨i, rfl, h1, h2, k g1 H1 _ m1 c1 walk_rng⟩
      · cases q1
    | _ => cases q1
  | _ => cases q1⟩
theorem sI_rng2 {tg : Expr} {p : Pos} (G : Good P X) (hg : Gl X "range") (ha : PE X e1 (tE P X a)) (hb : PE X e2 (tE P X b)) (hp : plainX e1 = true) (hp2 : plainX e2 = true) : PI X tg (.Call (.Name "range" p) [e1, e2] [] pos) (tI P X (.rng2 a b)) := ⟨fun pins st σ H R I ⟨g, sl, s, xs, s', cs, sr, e, k⟩ => by
  obtain ⟨x, s1, ea, q1⟩ := O.bind_ok e
  obtain ⟨y, s2, eb, q2⟩ := O.bind_ok q1
  refine (pi_range2 hg (G.free _ (by decide)) (pa_cons ha (pa_cons hb pa_nil (starEach_plain hp2)) (starEach_plain hp)) (by rw [starEach_plain hp, starEach_plain hp2]; rfl) (starEach_plain hp2)).run pins st σ H R I (two cs sr ea eb fun g1 v1 v2 H1 m1 c1 r1 r2 => ?_)
  cases x with
  | p d =>
    cases y with
    | p d2 =>
      cases d with
      | int i =>
        cases d2 with
        | int j =>
          have q2 : (if (inRng i && inRng j) = true then O.ok (rngItems i (j - i).toNat) s2 else .bad) = .ok xs s' := q2
          split at q2
          · rename_i h1
            obtain ⟨rfl, rfl⟩ := ok_inj q2
            obtain ⟨h1, h2⟩ := and2 h1
            obtain ⟨h3, h4⟩ := inRng_ok h1
            obtain ⟨h5, h6⟩ := inRng_ok h2
            cases r1.dz; cases r2.dz
            exact ⟨i, j, rfl, ⟨h3, h4, h5, h6⟩, k g1 H1 _ m1 c1 walk_rng⟩
          · cases q2
        | _ => cases q2
      | _ => cases d2 <;> cases q2
    | _ => cases d <;> cases q2
  | _ => cases q2⟩

/-! ### targets -/
mutual
def slotsT : Tg → List Nat
  | .nm i => [i]
  | .tp l => slotsTL l
  | .sub _ _ => []
def slotsTL : TLs → List Nat
  | .nil => []
  | .cons t l => slotsT t ++ slotsTL l
end
/-- only the slots vs have changed -/
def OutS (vs : List Nat) (σ σ' : L2.St) : Prop := σ'.length = σ.length ∧ ∀ j, j ∉ vs → σ'[j]? = σ[j]?
def tG (P : Pg) (X : Cx) (tg : Tg) : TG := fun v σ H Q => ∃ g sl s x sl' s', CS X.K X.mg g s H ∧ SR X.K X.mg g H sl σ ∧ RL X.K X.mg g H x v ∧ bindT P tg x sl s = .ok sl' s' ∧
  ∀ g' σ' H', Mo g H g' H' → CS X.K X.mg g' s' H' → SR X.K X.mg g' H' sl' σ' → OutS (slotsT tg) σ σ' → Q σ' H'
def tGs (P : Pg) (X : Cx) (l : TLs) : TGs := fun vs σ H Q => ∃ g sl s xs sl' s', CS X.K X.mg g s H ∧ SR X.K X.mg g H sl σ ∧ RLs X.K X.mg g H xs vs ∧ bindTL P l xs sl s = .ok sl' s' ∧
  ∀ g' σ' H', Mo g H g' H' → CS X.K X.mg g' s' H' → SR X.K X.mg g' H' sl' σ' → OutS (slotsTL l) σ σ' → Q σ' H'
theorem OutS.refl {vs : List Nat} {σ : L2.St} : OutS vs σ σ := ⟨rfl, fun _ _ => rfl⟩
theorem OutS.set {i : Nat} {v : V} {σ : L2.St} : OutS [i] σ (σ.set i (some v)) :=
  ⟨List.length_set, fun j hj => List.getElem?_set_ne (fun e => hj (by rw [e]; exact List.mem_singleton.mpr rfl))⟩
theorem OutS.app {us vs : List Nat} {σ σ1 σ2 : L2.St} (h : OutS us σ σ1) (k : OutS vs σ1 σ2) : OutS (us ++ vs) σ σ2 :=
  ⟨k.1.trans h.1, fun j hj => (k.2 j fun m => hj (List.mem_append_right _ m)).trans (h.2 j fun m => hj (List.mem_append_left _ m))⟩
theorem SR.set {K : PySem.W.Frag} {mg : Str → Option Value} {g : Gh} {H : Hp} {sl : Sl} {σ : L2.St} {x : Vl} {v : V} (h : SR K mg g H sl σ) (r : RL K mg g H x v) (i : Nat) : SR K mg g H (sl.set i (some x)) (σ.set i (some v)) := by
  refine ⟨by rw [List.length_set, List.length_set]; exact h.1, fun j y e => ?_⟩
  by_cases hij : i = j
  · subst hij
    have hl := (List.getElem?_eq_some_iff.mp e).1
    rw [List.length_set] at hl
    rw [List.getElem?_set_self hl] at e
    cases e
    exact ⟨v, List.getElem?_set_self (by rw [← h.1]; exact hl), r⟩
  · rw [List.getElem?_set_ne hij] at e
    rw [List.getElem?_set_ne hij]
    exact h.2 j y e
theorem _root_.L2.PG.imp {e : Expr} {t t' : TG} (h : PG X e t) (i : ∀ v σ H Q, t' v σ H Q → t v σ H Q) : PG X e t' := ⟨fun pins s σ H v u Q I r w => h.run pins s σ H v u Q I r (i v σ H Q w)⟩
theorem _root_.L2.PGs.imp {e : List Expr} {t t' : TGs} (h : PGs X e t) (i : ∀ v σ H Q, t' v σ H Q → t v σ H Q) : PGs X e t' := ⟨fun pins s σ H v u Q I r w => h.run pins s σ H v u Q I r (i v σ H Q w)⟩
theorem sG_nm {i : Nat} {x : Str} (hN : X.N.Nodup) (hi : X.N[i]? = some x) (hx : Loc X.env.scope x) (hf : X.fn x = true ∨ X.env.scope.names.lookup x = some .local) : PG X (.Name x pos) (tG P X (.nm i)) :=
  (pg_name hN hi hx hf).imp fun v σ H Q ⟨g, sl, s, x, sl', s', cs, sr, r, e, k⟩ => by
    obtain ⟨rfl, rfl⟩ := ok_inj (show O.ok (sl.set i (some x)) s = O.ok sl' s' from e)
    exact k g _ H .refl cs (sr.set r i) .set
theorem sG_nil : PGs X [] (tGs P X .nil) := pgs_nil.imp fun v σ H Q ⟨g, sl, s, xs, sl', s', cs, sr, r, e, k⟩ => by
  cases r with
  | nil =>
    obtain ⟨rfl, rfl⟩ := ok_inj (show O.ok sl s = O.ok sl' s' from e)
    exact ⟨rfl, k g _ H .refl cs sr .refl⟩
  | cons h hs => cases e
theorem assignEach_plain {e : Expr} {es : List Expr} {env : Env} (h : plainX e = true) : assignEach (e :: es) env = (false, assign e env) :: assignEach es env := by
  cases e <;> first | rfl | cases h
theorem sG_cons {t : Tg} {ts : TLs} (h1 : PG X e1 (tG P X t)) (h2 : PGs X es (tGs P X ts)) (hp : plainX e1 = true) : PGs X (e1 :: es) (tGs P X (.cons t ts)) :=
  (pgs_cons h1 h2 (by rw [assignEach_plain hp]; rfl)).imp fun v σ H Q ⟨g, sl, s, xs, sl', s', cs, sr, r, e, k⟩ => by
    cases r with
    | nil => cases e
    | @cons x xs v vs h hs =>
      obtain ⟨sl1, s1, e1, q1⟩ := O.bind_ok (show ((bindT P t x sl s).bind fun sl s => bindTL P ts xs sl s) = O.ok sl' s' from e)
      exact ⟨v, vs, rfl, g, sl, s, x, sl1, s1, cs, sr, h, e1, fun g1 σ1 H1 m1 c1 r1 o1 => ⟨g1, sl1, s1, xs, sl', s', c1, r1, m1.rls hs, q1, fun g2 σ2 H2 m2 c2 r2 o2 => k g2 σ2 H2 (m1.trans m2) c2 r2 (o1.app o2)⟩⟩
def lenT : TLs → Nat
  | .nil => 0
  | .cons _ l => lenT l + 1
theorem bindTL_len : ∀ {ts : TLs} {xs : List Vl} {sl sl' : Sl} {s s' : Cells}, bindTL P ts xs sl s = .ok sl' s' → xs.length = lenT ts
  | .nil, [], _, _, _, _, _ => rfl
  | .nil, _ :: _, _, _, _, _, e => by cases e
  | .cons t ts, [], _, _, _, _, e => by cases e
  | .cons t ts, x :: xs, sl, sl', s, s', e => by
    obtain ⟨sl1, s1, e1, q1⟩ := O.bind_ok (show ((bindT P t x sl s).bind fun sl s => bindTL P ts xs sl s) = O.ok sl' s' from e)
    show xs.length + 1 = lenT ts + 1
    rw [bindTL_len q1]
theorem assignEach_len {env : Env} : ∀ {es : List Expr}, plainXs es = true → (assignEach es env).length = es.length
  | [], _ => rfl
  | e :: r, h => by
    obtain ⟨h1, h2⟩ := and2 (show (plainX e && plainXs r) = true from h)
    rw [assignEach_plain h1, List.length_cons, List.length_cons, assignEach_len h2]
theorem assignEach_star {env : Env} : ∀ {es : List Expr}, plainXs es = true → (assignEach es env).findIdx? (·.1) = none
  | [], _ => rfl
  | e :: r, h => by
    obtain ⟨h1, h2⟩ := and2 (show (plainX e && plainXs r) = true from h)
    rw [assignEach_plain h1, List.findIdx?_cons]
    simp [assignEach_star h2]
theorem sG_tp {ts : TLs} {k0 : Nat} (G : Good P X) (h : PGs X es (tGs P X ts)) (hp : plainXs es = true) (hn : lenT ts = es.length) : PG X (.Tuple es k0 pos) (tG P X (.tp ts)) := ⟨fun pins st σ H v u Q I ru ⟨g, sl, s, x, sl', s', cs, sr, r, e, k⟩ => by
  obtain ⟨xs, s1, ex, q1⟩ := O.bind_ok e
  obtain ⟨ex, eq⟩ := lift_ok ex
  subst eq
  obtain ⟨p, vs, rfl, hq, rs⟩ := seqOf_ok cs r ex
  have hl : vs.length = es.length := by rw [← rs.length, bindTL_len q1, hn]
  have fin : tGs P X ts vs σ H Q := ⟨g, sl, _, xs, sl', s', cs, sr, rs, q1, k⟩
  rcases hq with hq | hq
  · exact (pg_unl G.calm h (assignEach_len hp) (assignEach_star hp)).run pins st σ H _ u Q I ru ⟨p, vs, rfl, hq, hl, fin⟩
  · exact (pg_tup G.calm h (assignEach_len hp) (assignEach_star hp)).run pins st σ H _ u Q I ru ⟨p, vs, rfl, hq, hl, fin⟩⟩
def notSl : Expr → Bool
  | .Slice _ _ _ _ => false
  | _ => true
theorem sG_sub (ho : PE X e1 (tE P X a)) (hi : PE X e2 (tE P X b)) (hp : notSl e2 = true) : PG X (.Subscript e1 e2 pos) (tG P X (.sub a b)) :=
  (pg_sub ho hi set_list (fun _ => by cases e2 <;> first | rfl | cases hp)).imp fun v σ H Q ⟨g, sl, s, x, sl', s', cs, sr, r, e, k⟩ => by
    obtain ⟨x1, s1, ea, q1⟩ := O.bind_ok e
    obtain ⟨y1, s2, eb, q2⟩ := O.bind_ok q1
    refine two cs sr ea eb fun g1 v1 v2 H1 m1 c1 r1 r2 => ?_
    cases x1 with
    | ref n =>
      cases y1 with
      | p d =>
        cases d with
        | int i =>
          have q2 : (match s2[n]? with
            | some (.lst xs) => (lift (L2.ixN xs.length i) s2).bind fun j s => O.ok sl (setCell s n (xs.set j x))
            | _ => .bad) = O.ok sl' s' := q2
          split at q2
          · rename_i xs hx
            obtain ⟨j, s3, ej, q3⟩ := O.bind_ok q2
            obtain ⟨ej2, eq⟩ := lift_ok ej
            subst eq
            obtain ⟨rfl, rfl⟩ := ok_inj (show O.ok sl (setCell s3 n (xs.set j x)) = O.ok sl' s' from q3)
            obtain ⟨p, ws, rfl, hr, hp2, rw'⟩ := cell_at c1 r1 hx
            cases r2.dz
            have m2 : Mo g1 H1 g1 (upd H1 p (.lst (ws.set j v))) := Mo.upd hr (c1.zr n _ p hx hr) hp2
            exact ⟨p, ws, i, j, rfl, rfl, hp2, by rw [← rw'.length]; exact ej2, k g1 σ _ (m1.trans m2) (c1.put hx hr hp2 (RLs.set (m1.rl r) j rw')) ((m1.trans m2).sr sr) .refl⟩
          · cases q2
        | _ => cases q2
      | _ => cases q2
    | _ => cases q2
end
end Sh
/-! Sh9: list comprehensions. -/
set_option linter.all false
set_option autoImplicit false
set_option maxRecDepth 100000
set_option maxHeartbeats 1000000
namespace Sh
open PySem PySem.Spec PyProof.Rows L2

/-! ### a list that only the loop knows -/
section
variable {K : PySem.W.Frag} {mg : Str → Option Value} {g g' g1 : Gh} {H H' H1 : Hp} {D : Addr} {vs ws : List V} {s : Cells}
structure Hid (g : Gh) (H : Hp) (D : Addr) (vs : List V) : Prop where
  at_ : H D = some (.lst vs)
  nr : D ∉ g.rho
  nz : ¬ g.Z D
theorem Hid.mo (h : Hid g H D vs) (m : Mo g H g' H') : Hid g' H' D vs where
  at_ := m.fo D _ h.at_ h.nr
  nr := fun hm => by
    rcases m.fm D hm with q | q
    · exact h.nr q
    · rw [h.at_] at q; cases q
  nz := fun hm => by
    rcases m.fn D hm with q | q | q
    · exact h.nz q
    · rw [h.at_] at q; cases q
    · exact h.nr q
theorem hid_ne {a : Addr} {o : HO} (hd : H D = some (.lst vs)) (h : H a = some o) (n : isL o = false) : a ≠ D := fun e => by
  rw [e, hd] at h; cases h; cases n
mutual
theorem DZ.hid {Z : Addr → Prop} (hd : H D = some (.lst vs)) (nz : ¬ Z D) : ∀ {v : V} {d : PyData}, DZ K Z H v d → DZ K Z (upd H D (.lst ws)) v d
  | _, _, .non => .non
  | _, _, .bl b => .bl b
  | _, _, .int i => .int i
  | _, _, .str y => .str y
  | _, _, .lst h z hs => .lst (by rw [upd_ne (fun e => nz (by rw [← e]; exact z))]; exact h) z (DZs.hid hd nz hs)
  | _, _, .tup h hs => .tup (by
      rcases h with (h | ⟨o, h⟩) | h
      · exact .inl (.inl (by rw [upd_ne (hid_ne hd h rfl)]; exact h))
      · exact .inl (.inr ⟨o, by rw [upd_ne (hid_ne hd h rfl)]; exact h⟩)
      · exact .inr h) (DZs.hid hd nz hs)
  | _, _, .emp h => .emp (by rw [upd_ne (hid_ne hd h rfl)]; exact h)
theorem DZs.hid {Z : Addr → Prop} (hd : H D = some (.lst vs)) (nz : ¬ Z D) : ∀ {us : List V} {ds : List PyData}, DZs K Z H us ds → DZs K Z (upd H D (.lst ws)) us ds
  | _, _, .nil => .nil
  | _, _, .cons h hs => .cons (DZ.hid hd nz h) (DZs.hid hd nz hs)
end
mutual
theorem DZ.mono {Z Z' : Addr → Prop} (m : ∀ a, Z a → Z' a) : ∀ {v : V} {d : PyData}, DZ K Z H v d → DZ K Z' H v d
  | _, _, .non => .non
  | _, _, .bl b => .bl b
  | _, _, .int i => .int i
  | _, _, .str y => .str y
  | _, _, .lst h z hs => .lst h (m _ z) (DZs.mono m hs)
  | _, _, .tup h hs => .tup h (DZs.mono m hs)
  | _, _, .emp h => .emp h
theorem DZs.mono {Z Z' : Addr → Prop} (m : ∀ a, Z a → Z' a) : ∀ {us : List V} {ds : List PyData}, DZs K Z H us ds → DZs K Z' H us ds
  | _, _, .nil => .nil
  | _, _, .cons h hs => .cons (DZ.mono m h) (DZs.mono m hs)
end
theorem RL.hid (hd : H D = some (.lst vs)) (nz : ¬ g.Z D) {v : Vl} {u : V} (r : RL K mg g H v u) : RL K mg g (upd H D (.lst ws)) v u := by
  cases r with
  | p h => exact .p (h.hid hd nz)
  | ref h => exact .ref h
  | dic h => exact .dic h
  | ty n => exact .ty n
  | scr h =>
    rcases h with ⟨o, h⟩ | h
    · exact .scr (.inl ⟨o, by rw [upd_ne (hid_ne hd h rfl)]; exact h⟩)
    · exact .scr (.inr h)
theorem RL.mono (m : ∀ a, g.Z a → g'.Z a) (hr : g'.rho = g.rho) {v : Vl} {u : V} (r : RL K mg g H v u) : RL K mg g' H v u := by
  cases r with
  | p h => exact .p (h.mono m)
  | ref h => exact .ref (by rw [hr]; exact h)
  | dic h => exact .dic h
  | ty n => exact .ty n
  | scr h => exact .scr h
theorem RLs.map_ {xs : List Vl} {us : List V} {g' : Gh} {H' : Hp} (f : ∀ v u, RL K mg g H v u → RL K mg g' H' v u) (h : RLs K mg g H xs us) : RLs K mg g' H' xs us := by
  induction h with
  | nil => exact .nil
  | cons h hs ih => exact .cons (f _ _ h) ih
theorem CS.hid (c : CS K mg g s H) (h : Hid g H D vs) : CS K mg g s (upd H D (.lst ws)) where
  len := c.len
  at_ := fun n o a e1 e2 => by
    have q := c.at_ n o a e1 e2
    cases o with
    | dead => trivial
    | lst xs =>
      obtain ⟨us, e, r⟩ := q
      exact ⟨us, by rw [upd_ne (fun z => h.nr (by rw [← z]; exact List.mem_of_getElem? e2))]; exact e, RLs.map_ (fun v u => RL.hid h.at_ h.nz) r⟩
  nd := c.nd
  zr := c.zr
  zt := fun a z => upd_nn (c.zt a z)
  rt := fun a z => upd_nn (c.rt a z)
theorem Mo.hid (m : Mo g1 H1 g H) (hd : H1 D = none) : Mo g1 H1 g (L2.upd H D (.lst ws)) where
  fz := m.fz
  fo := fun a o h n => by rw [upd_ne (fun e => by rw [e, hd] at h; cases h)]; exact m.fo a o h n
  fd := fun a o z h => by rw [upd_ne (fun e => by rw [e, hd] at h; cases h)]; exact m.fd a o z h
  ft := fun a o h n => by rw [upd_ne (fun e => by rw [e, hd] at h; cases h)]; exact m.ft a o h n
  fn := m.fn
  fr := m.fr
  fm := m.fm
  fh := fun a h => upd_nn (m.fh a h)
theorem Mo.show_ (m : Mo g1 H1 g H) (hd : H1 D = none) : Mo g1 H1 (g.add D) H where
  fz := fun a z => .inl (m.fz a z)
  fo := m.fo
  fd := m.fd
  ft := m.ft
  fn := fun a z => z.elim (m.fn a) fun e => .inr (.inl (by rw [e]; exact hd))
  fr := m.fr
  fm := m.fm
  fh := m.fh
theorem CS.show_ (c : CS K mg g s H) (h : Hid g H D vs) : CS K mg (g.add D) s H where
  len := c.len
  at_ := fun n o a e1 e2 => by
    have q := c.at_ n o a e1 e2
    cases o with
    | dead => trivial
    | lst xs =>
      obtain ⟨us, e, r⟩ := q
      exact ⟨us, e, RLs.map_ (fun v u => RL.mono (g' := g.add D) (fun a z => Or.inl z) rfl) r⟩
  nd := c.nd
  zr := fun n xs a e1 e2 z => z.elim (c.zr n xs a e1 e2) fun e => h.nr (by rw [← e]; exact List.mem_of_getElem? e2)
  zt := fun a z => z.elim (c.zt a) fun e => by rw [e, h.at_]; exact fun q => nomatch q
  rt := c.rt

/-! ### slots forgotten -/
theorem wipeS_length (sl : Sl) : ∀ vs : List Nat, (wipeS sl vs).length = sl.length
  | [] => rfl
  | v :: vs => by unfold wipeS; rw [List.length_set, wipeS_length sl vs]
theorem wipe_get (σ : L2.St) (j : Nat) : ∀ vs : List Nat, (wipe σ vs)[j]? = if j ∈ vs ∧ j < σ.length then some none else σ[j]?
  | [] => by simp [wipe]
  | v :: vs => by
    show ((wipe σ vs).set v none)[j]? = _
    by_cases h : v = j
    · subst h
      by_cases hl : v < σ.length
      · rw [List.getElem?_set_self (by rw [wipe_length]; exact hl), if_pos ⟨List.mem_cons_self, hl⟩]
      · rw [if_neg (fun q => hl q.2)]
        rw [List.getElem?_eq_none (by rw [List.length_set, wipe_length]; omega), List.getElem?_eq_none (by omega)]
    · rw [List.getElem?_set_ne h, wipe_get σ j vs]
      have e : (j ∈ v :: vs ∧ j < σ.length) ↔ (j ∈ vs ∧ j < σ.length) := by
        rw [List.mem_cons]
        exact ⟨fun q => ⟨q.1.resolve_left (fun z => h z.symm), q.2⟩, fun q => ⟨.inr q.1, q.2⟩⟩
      simp only [e]
theorem wipeS_get (sl : Sl) (j : Nat) : ∀ vs : List Nat, (wipeS sl vs)[j]? = if j ∈ vs ∧ j < sl.length then some none else sl[j]?
  | [] => by simp [wipeS]
  | v :: vs => by
    show ((wipeS sl vs).set v none)[j]? = _
    by_cases h : v = j
    · subst h
      by_cases hl : v < sl.length
      · rw [List.getElem?_set_self (by rw [wipeS_length]; exact hl), if_pos ⟨List.mem_cons_self, hl⟩]
      · rw [if_neg (fun q => hl q.2)]
        rw [List.getElem?_eq_none (by rw [List.length_set, wipeS_length]; omega), List.getElem?_eq_none (by omega)]
    · rw [List.getElem?_set_ne h, wipeS_get sl j vs]
      have e : (j ∈ v :: vs ∧ j < sl.length) ↔ (j ∈ vs ∧ j < sl.length) := by
        rw [List.mem_cons]
        exact ⟨fun q => ⟨q.1.resolve_left (fun z => h z.symm), q.2⟩, fun q => ⟨.inr q.1, q.2⟩⟩
      simp only [e]
theorem SR.wipe {sl : Sl} {σ : L2.St} (h : SR K mg g H sl σ) (vs : List Nat) : SR K mg g H (wipeS sl vs) (L2.wipe σ vs) := by
  refine ⟨by rw [wipeS_length, wipe_length]; exact h.1, fun j x e => ?_⟩
  rw [wipeS_get] at e
  split at e
  · cases e
  · rename_i hn
    rw [wipe_get, if_neg (by rw [← h.1]; exact hn)]
    exact h.2 j x e
theorem wipe_out_eq {σ σ2 : L2.St} {us vs : List Nat} (h : OutS us (L2.wipe σ vs) σ2) (hs : ∀ i ∈ us, i ∈ vs) : L2.wipe σ2 vs = L2.wipe σ vs := by
  apply List.ext_getElem?
  intro j
  have hl : σ2.length = σ.length := by rw [h.1, wipe_length]
  rw [wipe_get, wipe_get, hl]
  split
  · rfl
  · rename_i hn
    by_cases hj : j ∈ vs
    · have : ¬ j < σ.length := fun q => hn ⟨hj, q⟩
      rw [List.getElem?_eq_none (by omega), List.getElem?_eq_none (by omega)]
    · rw [h.2 j (fun m => hj (hs j m)), wipe_get, if_neg (fun q => hj q.1)]
end

/-! ### the comprehension -/
section
variable {P : Pg} {X : Cx} {a c elt : E} {tg : Tg} {it : I} {own : List (Str × Nat)}
def lcTurn (P : Pg) (elt : E) (tg : Tg) (c : E) (slw : Sl) : Vl → Cells → O (Option PyData) := fun x s => (bindT P tg x slw s).bind fun sl' s => (evE P c sl' s).bind fun k s => (lift (truth s k) s).bind fun k s =>
        match k with
        | true => (evE P elt sl' s).bind fun y s => match y with | .p d => .ok (some d) s | _ => .bad
        | false => .ok none s
theorem lcTurn_ok {slw : Sl} {x : Vl} {s s' : Cells} {o : Option PyData} (e : lcTurn P elt tg c slw x s = .ok o s') : ∃ sl' s1 k s2, bindT P tg x slw s = .ok sl' s1 ∧ evT P c sl' s1 = .ok k s2 ∧
    ((k = true ∧ ∃ d, evE P elt sl' s2 = .ok (.p d) s' ∧ o = some d) ∨ (k = false ∧ o = none ∧ s' = s2)) := by
  obtain ⟨sl', s1, e1, q1⟩ := O.bind_ok e
  obtain ⟨kx, s2, e2, q2⟩ := O.bind_ok q1
  obtain ⟨k, s3, e3, q3⟩ := O.bind_ok q2
  obtain ⟨e3', eq⟩ := lift_ok e3
  rw [eq] at q3
  refine ⟨sl', s1, k, s2, e1, evT_of e2 e3', ?_⟩
  cases k with
  | true =>
    obtain ⟨y, s4, e4, q4⟩ := O.bind_ok (show ((evE P elt sl' s2).bind fun y s => match y with | .p d => O.ok (some d) s | _ => .bad) = O.ok o s' from q3)
    cases y with
    | p d =>
      obtain ⟨h1, h2⟩ := ok_inj (show O.ok (some d) s4 = O.ok o s' from q4)
      exact .inl ⟨rfl, d, by rw [← h2]; exact e4, h1.symm⟩
    | _ => cases q4
  | false =>
    obtain ⟨h1, h2⟩ := ok_inj (show O.ok none s2 = O.ok o s' from q3)
    exact .inr ⟨rfl, h1.symm, h2.symm⟩
theorem drop_at {α : Type} {xs : List α} {i : Nat} {x : α} (h : xs[i]? = some x) : xs.drop i = x :: xs.drop (i + 1) := by
  obtain ⟨hi, e⟩ := List.getElem?_eq_some_iff.mp h
  rw [List.drop_eq_getElem_cons hi, e]
theorem _root_.L2.PTs.imp {e : List Expr} {t t' : TT} (h : PTs X e t) (i : ∀ σ H Q, t' σ H Q → t σ H Q) : PTs X e t' := ⟨fun pins s σ H Q I w => h.run pins s σ H Q I (i σ H Q w)⟩
theorem sTs_nil : PTs X [] (tT P X (.bl true)) := pts_nil.imp fun σ H Q ⟨g, sl, s, r, s', cs, sr, e, k⟩ => by
  obtain ⟨rfl, rfl⟩ := ok_inj (show O.ok true s = O.ok r s' from e)
  exact k g H .refl cs
theorem lc_read {σ : L2.St} {H : Hp} {Q : VK} (hown : ∀ i ∈ slotsT tg, i ∈ own.map (·.2)) (h : tE P X (.lc elt tg it c own) σ H Q) : tLc (tI P X it) (tG P X tg) (tT P X c) (tE P X elt) (own.map (·.2)) σ H Q := by
  obtain ⟨g, sl, s, r, s', cs, sr, e, k⟩ := h
  obtain ⟨xs, s1, ei, q1⟩ := O.bind_ok e
  obtain ⟨ds, s2, el, q2⟩ := O.bind_ok (show ((lcLoop (lcTurn P elt tg c (wipeS sl (own.map (·.2)))) xs s1).bind fun ds s => if Nat.ble ds.length sizeLine then O.ok (Vl.p (.list ds)) s else .bad) = O.ok r s' from q1)
  have q2 : (if Nat.ble ds.length sizeLine = true then O.ok (Vl.p (.list ds)) s2 else .bad) = O.ok r s' := q2
  split at q2
  case isFalse => cases q2
  rename_i hz
  have hz := Nat.le_of_ble_eq_true hz
  obtain ⟨rfl, rfl⟩ := ok_inj q2
  refine ⟨g, sl, s, xs, s1, cs, sr, ei, fun g1 H1 J m1 c1 wk D hD => ?_⟩
  refine ⟨fun i m H => m = xs.length - i ∧ i ≤ xs.length ∧ ∃ g2 s3 vs acc rest, Mo g1 H1 g2 H ∧ CS X.K X.mg g2 s3 H ∧ Hid g2 H D vs ∧ DZs X.K g2.Z H vs acc ∧ lcLoop (lcTurn P elt tg c (wipeS sl (own.map (·.2)))) (xs.drop i) s3 = .ok rest s2 ∧ acc ++ rest = ds,
    ⟨xs.length, rfl, Nat.zero_le _, g1, s1, [], [], ds, Mo.alloc hD, c1.alloc hD, ⟨upd_same, fun q => c1.rt D q hD, fun q => c1.zt D q hD⟩, .nil, el, rfl⟩, ?_⟩
  rintro i m H2 ⟨rfl, hle, g2, s3, vs, acc, rest, m2, c2, hid, hs, hl, ha⟩
  obtain ⟨w1, w2⟩ := wk g2 H2 m2
  cases hx : xs[i]? with
  | none =>
    have hi : xs.length ≤ i := List.getElem?_eq_none_iff.mp hx
    rw [List.drop_of_length_le hi] at hl
    obtain ⟨rfl, rfl⟩ := ok_inj (show O.ok ([] : List PyData) s3 = O.ok rest s2 from hl)
    rw [List.append_nil] at ha
    subst ha
    exact .inl ⟨by rw [Nat.le_antisymm hle hi]; exact w2, k _ _ H2 ((m1.trans m2).show_ (by
      cases hH : H D with
      | none => rfl
      | some o => exact absurd hD (m1.fh D (by rw [hH]; exact fun z => nomatch z)))) (c2.show_ hid) (.p (.lst hid.at_ (.inr rfl) (hs.mono fun a z => .inl z)))⟩
  | some x =>
    have hi := (List.getElem?_eq_some_iff.mp hx).1
    rw [drop_at hx] at hl
    obtain ⟨o, s4, et, q3⟩ := O.bind_ok (show ((lcTurn P elt tg c (wipeS sl (own.map (·.2))) x s3).bind fun o s => (lcLoop (lcTurn P elt tg c (wipeS sl (own.map (·.2)))) (xs.drop (i + 1)) s).bind fun ys s => .ok (match o with | some y => y :: ys | none => ys) s) = O.ok rest s2 from hl)
    obtain ⟨ys, s5, er, q4⟩ := O.bind_ok q3
    obtain ⟨rfl, rfl⟩ := ok_inj q4
    obtain ⟨sl', s6, b, s7, et1, et2, et3⟩ := lcTurn_ok et
    obtain ⟨go, yl⟩ := w1 i x hx
    refine .inr ⟨go, fun H' => ∃ g2 s3 vs acc rest, Mo g1 H1 g2 H' ∧ CS X.K X.mg g2 s3 H' ∧ Hid g2 H' D vs ∧ DZs X.K g2.Z H' vs acc ∧ lcLoop (lcTurn P elt tg c (wipeS sl (own.map (·.2)))) (xs.drop (i + 1)) s3 = .ok rest s5 ∧ acc ++ rest = ds,
      fun H' nx => ⟨xs.length - (i + 1), by omega, rfl, hi, nx⟩, fun v H3 y => ?_⟩
    obtain ⟨g3, m3, c3, r3⟩ := yl v H3 y
    refine ⟨g3, wipeS sl (own.map (·.2)), s3, x, sl', s6, c3 _ c2, ((m1.trans m2).trans m3).sr sr |>.wipe _, r3, et1, fun g4 σ4 H4 m4 c4 r4 o4 => ⟨wipe_out_eq o4 hown, ?_⟩⟩
    refine ⟨g4, sl', s6, b, s7, c4, r4, et2, fun g5 H5 m5 c5 => ?_⟩
    have m25 : Mo g2 H2 g5 H5 := (m3.trans m4).trans m5
    rcases et3 with ⟨rfl, d, ee, rfl⟩ | ⟨rfl, rfl, rfl⟩
    · show (if true = true then _ else _)
      rw [if_pos rfl]
      refine ⟨g5, sl', s7, .p d, s4, c5, m5.sr r4, ee, fun g6 u H6 m6 c6 r6 => ?_⟩
      have m26 : Mo g2 H2 g6 H6 := m25.trans m6
      have hid6 := hid.mo m26
      have hs6 := m26.dzs hs
      have hlen : vs.length < sizeLine := by
        rw [hs.length]
        rw [← ha] at hz
        simp at hz
        omega
      refine ⟨vs, hid6.at_, hlen, g6, s4, vs ++ [u], acc ++ [d], ys, (m2.trans m26).hid hD, c6.hid hid6, ⟨upd_same, hid6.nr, hid6.nz⟩, (hs6.hid hid6.at_ hid6.nz).append (.cons (r6.dz.hid hid6.at_ hid6.nz) .nil), er, ?_⟩
      rw [List.append_assoc]
      exact ha
    · show (if false = true then _ else _)
      rw [if_neg (by decide)]
      exact ⟨g5, s4, vs, acc, ys, m2.trans m25, c5, hid.mo m25, m25.dzs hs, er, ha⟩
theorem sE_lc {eltx tgx iter : Expr} {ifs : List Expr} {scope : Scope} {pos : Pos} (G : Good P X) (hi : PI X tgx iter (tI P X it)) (ok : BlkOk X.N X.env.scope scope own) (hown : ∀ i ∈ slotsT tg, i ∈ own.map (·.2))
    (hg : ∀ (s : Shared) (H : Hp) (C : Addr) (cl : List (Str × Addr)) (fp : List Addr), PG (X.blk s H scope (compEnvC scope cl C X.env) fp) tgx (tG P (X.blk s H scope (compEnvC scope cl C X.env) fp) tg))
    (ht : ∀ (s : Shared) (H : Hp) (C : Addr) (cl : List (Str × Addr)) (fp : List Addr), PTs (X.blk s H scope (compEnvC scope cl C X.env) fp) ifs (tT P (X.blk s H scope (compEnvC scope cl C X.env) fp) c))
    (he : ∀ (s : Shared) (H : Hp) (C : Addr) (cl : List (Str × Addr)) (fp : List Addr), PE (X.blk s H scope (compEnvC scope cl C X.env) fp) eltx (tE P (X.blk s H scope (compEnvC scope cl C X.env) fp) elt))
    (hs : ∀ x, foldedSetIterable iter X.env x = pure x) : PE X (.ListComp eltx [⟨tgx, iter, ifs, 0⟩] scope pos) (tE P X (.lc elt tg it c own)) :=
  (pe_lc G.calm G.nd hi ok hg ht he hs).imp fun σ H Q h => lc_read hown h
theorem Good.blk (G : Good P X) (s : Shared) (H : Hp) (scope : Scope) (ce : Env) (fp : List Addr) : Good P (X.blk s H scope ce fp) where
  calm := G.calm
  nd := G.nd
  room := G.room
  gd := G.gd
  free := G.free
  gcd := G.gcd
  cst := fun x v h => G.cst x v h
  fns := fun f x ps h => ⟨(G.fns f x ps h).ex⟩
  dic := G.dic
end
end Sh
/-! Sh10: statements. -/
set_option linter.all false
set_option autoImplicit false
set_option maxRecDepth 100000
set_option maxHeartbeats 1000000
namespace Sh
open PySem PySem.Spec PyProof.Rows L2
/-- what is wanted behind an outcome -/
def EndK (K : PySem.W.Frag) (mg : Str → Option Value) (g : Gh) (H : Hp) (s' : Cells) (D : Ends) : Out → Prop
  | .nx sl' => ∀ g' σ' H', Mo g H g' H' → CS K mg g' s' H' → SR K mg g' H' sl' σ' → D.nx σ' H'
  | .ct sl' => ∀ g' σ' H', Mo g H g' H' → CS K mg g' s' H' → SR K mg g' H' sl' σ' → D.ct σ' H'
  | .bk sl' => ∀ g' σ' H', Mo g H g' H' → CS K mg g' s' H' → SR K mg g' H' sl' σ' → D.bk σ' H'
  | .rt v => ∀ g' u H', Mo g H g' H' → CS K mg g' s' H' → RL K mg g' H' v u → D.rt u H'
def tS (P : Pg) (X : Cx) (t : ST) : TS := fun D σ H => ∃ g sl s o s', CS X.K X.mg g s H ∧ SR X.K X.mg g H sl σ ∧ evS P t sl s = .ok o s' ∧ EndK X.K X.mg g H s' D o
def tB (P : Pg) (X : Cx) (b : BL) : TS := fun D σ H => ∃ g sl s o s', CS X.K X.mg g s H ∧ SR X.K X.mg g H sl σ ∧ evB P b sl s = .ok o s' ∧ EndK X.K X.mg g H s' D o
section
variable {K : PySem.W.Frag} {mg : Str → Option Value} {g g' : Gh} {H H' : Hp} {s : Cells} {D : Ends} {o : Out}
theorem EndK.mo (h : EndK K mg g H s D o) (m : Mo g H g' H') : EndK K mg g' H' s D o := by
  cases o with
  | nx sl => exact fun g2 σ2 H2 m2 c2 r2 => h g2 σ2 H2 (m.trans m2) c2 r2
  | ct sl => exact fun g2 σ2 H2 m2 c2 r2 => h g2 σ2 H2 (m.trans m2) c2 r2
  | bk sl => exact fun g2 σ2 H2 m2 c2 r2 => h g2 σ2 H2 (m.trans m2) c2 r2
  | rt v => exact fun g2 u H2 m2 c2 r2 => h g2 u H2 (m.trans m2) c2 r2
theorem EndK.ends {D' : Ends} (h : EndK K mg g H s D o) (h1 : ∀ sl, o = .nx sl → D'.nx = D.nx) (h2 : D'.rt = D.rt) (h3 : D'.bk = D.bk) (h4 : D'.ct = D.ct) : EndK K mg g H s D' o := by
  cases o with
  | nx sl => exact fun g2 σ2 H2 m2 c2 r2 => by rw [h1 sl rfl]; exact h g2 σ2 H2 m2 c2 r2
  | ct sl => exact fun g2 σ2 H2 m2 c2 r2 => by rw [h4]; exact h g2 σ2 H2 m2 c2 r2
  | bk sl => exact fun g2 σ2 H2 m2 c2 r2 => by rw [h3]; exact h g2 σ2 H2 m2 c2 r2
  | rt v => exact fun g2 u H2 m2 c2 r2 => by rw [h2]; exact h g2 u H2 m2 c2 r2
end
section
variable {P : Pg} {X : Cx} {e1 e2 e3 : Expr} {a b c : E} {pos : Pos} {tgx : Expr} {tg : Tg} {st : Stmt} {sts sts2 : List Stmt} {t : ST} {bl bl2 : BL}
theorem _root_.L2.PS.imp {x : Stmt} {t t' : TS} (h : PS X x t) (i : ∀ D σ H, t' D σ H → t D σ H) : PS X x t' := ⟨fun pins s σ H D I w => h.run pins s σ H D I (i D σ H w)⟩
theorem _root_.L2.PSs.imp {x : List Stmt} {t t' : TS} (h : PSs X x t) (i : ∀ D σ H, t' D σ H → t D σ H) : PSs X x t' := ⟨fun pins s σ H D I w => h.run pins s σ H D I (i D σ H w)⟩

/-! ### assignments -/
theorem asg_read {D : Ends} {σ : L2.St} {H : Hp} (h : tS P X (.asg tg a) D σ H) : tAsg (tE P X a) (tG P X tg) D σ H := by
  obtain ⟨g, sl, s, o, s', cs, sr, e, k⟩ := h
  obtain ⟨v, s1, ea, q1⟩ := O.bind_ok e
  obtain ⟨sl', s2, eb, q2⟩ := O.bind_ok q1
  obtain ⟨rfl, rfl⟩ := ok_inj (show O.ok (Out.nx sl') s2 = O.ok o s' from q2)
  exact ⟨g, sl, s, v, s1, cs, sr, ea, fun g1 u H1 m1 c1 r1 => ⟨g1, sl, s1, v, sl', s2, c1, m1.sr sr, r1, eb, fun g2 σ2 H2 m2 c2 r2 _ => k g2 σ2 H2 (m1.trans m2) c2 r2⟩⟩
theorem sS_asg (he : PE X e1 (tE P X a)) (hg : PG X tgx (tG P X tg)) (hs : swapsWithSole [tgx] e1 pos.line X.env = pure false) (hw : swappedStores [tgx] e1 X.env = pure none) (h1 : plainX tgx = true) : PS X (.Assign [tgx] e1 pos) (tS P X (.asg tg a)) :=
  (ps_asg he hg hs hw (by rw [assignEach_plain h1]; rfl)).imp fun D σ H h => asg_read h
theorem gName_of {i : Nat} {v : V} {σ : L2.St} {H : Hp} {Q : L2.St → Hp → Prop} (h : tG P X (.nm i) v σ H Q) : gName i v σ H Q := by
  obtain ⟨g, sl, s, x, sl', s', cs, sr, r, e, k⟩ := h
  obtain ⟨rfl, rfl⟩ := ok_inj (show O.ok (sl.set i (some x)) s = O.ok sl' s' from e)
  exact k g _ H .refl cs (sr.set r i) .set
/-- name = [..] on one line -/
theorem sS_setLc {i : Nat} {y : Str} {py lpos : Pos} {eltx tx iter : Expr} {ifs : List Expr} {scope : Scope} {elt : E} {it : I} {own : List (Str × Nat)} (G : Good P X) (hi' : X.N[i]? = some y) (hyl : X.env.scope.names.lookup y = some .local)
    (hsw : swapsWith (.ListComp eltx [⟨tx, iter, ifs, 0⟩] scope lpos) (some (.Name y py)) pos.line X.env = pure true) (hi : PI X tx iter (tI P X it)) (ok : BlkOk X.N X.env.scope scope own) (hown : ∀ i ∈ slotsT tg, i ∈ own.map (·.2))
    (hg : ∀ (s : Shared) (H : Hp) (C : Addr) (cl : List (Str × Addr)) (fp : List Addr), PG (X.blk s H scope (compEnvC scope cl C X.env) fp) tx (tG P (X.blk s H scope (compEnvC scope cl C X.env) fp) tg))
    (ht : ∀ (s : Shared) (H : Hp) (C : Addr) (cl : List (Str × Addr)) (fp : List Addr), PTs (X.blk s H scope (compEnvC scope cl C X.env) fp) ifs (tT P (X.blk s H scope (compEnvC scope cl C X.env) fp) c))
    (he : ∀ (s : Shared) (H : Hp) (C : Addr) (cl : List (Str × Addr)) (fp : List Addr), PE (X.blk s H scope (compEnvC scope cl C X.env) fp) eltx (tE P (X.blk s H scope (compEnvC scope cl C X.env) fp) elt))
    (hs : ∀ x, foldedSetIterable iter X.env x = pure x) : PS X (.Assign [.Name y py] (.ListComp eltx [⟨tx, iter, ifs, 0⟩] scope lpos) pos) (tS P X (.asg (.nm i) (.lc elt tg it c own))) :=
  (ps_setLc G.calm G.nd hi' hyl hsw hi ok hg ht he hs).imp fun D σ H h => by
    have q := asg_read h
    obtain ⟨g, sl, s, r, s', cs, sr, e, k⟩ := q
    exact lc_read hown ⟨g, sl, s, r, s', cs, sr, e, fun g' v H' m c r => gName_of (k g' v H' m c r)⟩
theorem sS_par2 {i j : Nat} {x y : Str} {px py pt : Pos} {kt k2 : Nat} {pt2 : Pos} (G : Good P X) (hi : X.N[i]? = some x) (hj : X.N[j]? = some y) (hij : i ≠ j)
    (hx : X.env.scope.names.lookup x = some .local) (hy : X.env.scope.names.lookup y = some .local) (ha : PE X e1 (tE P X a)) (hb : PE X e2 (tE P X b)) (p1 : plainX e1 = true) (p2 : plainX e2 = true)
    (hw : swappedStores [.Tuple [.Name x px, .Name y py] kt pt] (.Tuple [e1, e2] k2 pt2) X.env = pure (some [x, y])) :
    PS X (.Assign [.Tuple [.Name x px, .Name y py] kt pt] (.Tuple [e1, e2] k2 pt2) pos) (tS P X (.par2 i j a b)) :=
  (ps_par G.calm G.nd hi hj hij hx hy (pa_cons ha (pa_cons hb pa_nil (starEach_plain p2)) (starEach_plain p1)) hw rfl).imp fun D σ H ⟨g, sl, s, o, s', cs, sr, e, k⟩ => by
    obtain ⟨v, s1, ea, q1⟩ := O.bind_ok e
    obtain ⟨w, s2, eb, q2⟩ := O.bind_ok q1
    obtain ⟨rfl, rfl⟩ := ok_inj (show O.ok (Out.nx ((sl.set i (some v)).set j (some w))) s2 = O.ok o s' from q2)
    exact two cs sr ea eb fun g2 v1 v2 H2 m2 c2 r1 r2 => ⟨v1, v2, rfl, k g2 _ H2 m2 c2 (((m2.sr sr).set r1 i).set r2 j)⟩
theorem sS_par3 {i j l : Nat} {x y z : Str} {px py pz pt : Pos} {kt k2 : Nat} {pt2 : Pos} (G : Good P X) (hi : X.N[i]? = some x) (hj : X.N[j]? = some y) (hl : X.N[l]? = some z) (hij : i ≠ j) (hil : i ≠ l) (hjl : j ≠ l)
    (hx : X.env.scope.names.lookup x = some .local) (hy : X.env.scope.names.lookup y = some .local) (hz : X.env.scope.names.lookup z = some .local) (ha : PE X e1 (tE P X a)) (hb : PE X e2 (tE P X b)) (hc : PE X e3 (tE P X c))
    (p1 : plainX e1 = true) (p2 : plainX e2 = true) (p3 : plainX e3 = true)
    (hw : swappedStores [.Tuple [.Name x px, .Name y py, .Name z pz] kt pt] (.Tuple [e1, e2, e3] k2 pt2) X.env = pure (some [x, y, z])) :
    PS X (.Assign [.Tuple [.Name x px, .Name y py, .Name z pz] kt pt] (.Tuple [e1, e2, e3] k2 pt2) pos) (tS P X (.par3 i j l a b c)) :=
  (ps_par3 G.calm G.nd hi hj hl hij hil hjl hx hy hz (pa_cons ha (pa_cons hb (pa_cons hc pa_nil (starEach_plain p3)) (starEach_plain p2)) (starEach_plain p1)) hw rfl).imp fun D σ H ⟨g, sl, s, o, s', cs, sr, e, k⟩ => by
    obtain ⟨v, s1, ea, q1⟩ := O.bind_ok e
    obtain ⟨w, s2, eb, q2⟩ := O.bind_ok q1
    obtain ⟨u, s3, ec, q3⟩ := O.bind_ok q2
    obtain ⟨rfl, rfl⟩ := ok_inj (show O.ok (Out.nx (((sl.set i (some v)).set j (some w)).set l (some u))) s3 = O.ok o s' from q3)
    exact two cs sr ea eb fun g2 v1 v2 H2 m2 c2 r1 r2 => one_ c2 (m2.sr sr) ec fun g3 v3 H3 m3 c3 r3 =>
      ⟨v1, v2, v3, rfl, k g3 _ H3 (m2.trans m3) c3 (((((m2.trans m3).sr sr).set (m3.rl r1) i).set (m3.rl r2) j).set r3 l)⟩

/-! ### small statements -/
theorem sS_expr (he : PE X e1 (tE P X a)) (hs : swapsWith e1 none pos.line X.env = pure false) : PS X (.Expr e1 pos) (tS P X (.expr a)) :=
  (ps_expr he hs).imp fun D σ H ⟨g, sl, s, o, s', cs, sr, e, k⟩ => by
    obtain ⟨v, s1, ea, q1⟩ := O.bind_ok e
    obtain ⟨rfl, rfl⟩ := ok_inj (show O.ok (Out.nx sl) s1 = O.ok o s' from q1)
    exact one_ cs sr ea fun g1 v1 H1 m1 c1 r1 => k g1 σ H1 m1 c1 (m1.sr sr)
theorem sS_ret (he : PE X e1 (tE P X a)) : PS X (.Return (some e1) pos) (tS P X (.ret a)) :=
  (ps_ret he).imp fun D σ H ⟨g, sl, s, o, s', cs, sr, e, k⟩ => by
    obtain ⟨v, s1, ea, q1⟩ := O.bind_ok e
    obtain ⟨rfl, rfl⟩ := ok_inj (show O.ok (Out.rt v) s1 = O.ok o s' from q1)
    exact one_ cs sr ea fun g1 v1 H1 m1 c1 r1 => k g1 v1 H1 m1 c1 r1
theorem sS_retN : PS X (.Return none pos) (tS P X .retN) :=
  ps_retN.imp fun D σ H ⟨g, sl, s, o, s', cs, sr, e, k⟩ => by
    obtain ⟨rfl, rfl⟩ := ok_inj (show O.ok (Out.rt (.p .none)) s = O.ok o s' from e)
    exact k g .non H .refl cs (.p .non)
theorem sS_pas : PS X (.Pass pos) (tS P X .pas) :=
  ps_pass.imp fun D σ H ⟨g, sl, s, o, s', cs, sr, e, k⟩ => by
    obtain ⟨rfl, rfl⟩ := ok_inj (show O.ok (Out.nx sl) s = O.ok o s' from e)
    exact k g σ H .refl cs sr
theorem sS_brk : PS X (.Break pos) (tS P X .brk) :=
  ps_break.imp fun D σ H ⟨g, sl, s, o, s', cs, sr, e, k⟩ => by
    obtain ⟨rfl, rfl⟩ := ok_inj (show O.ok (Out.bk sl) s = O.ok o s' from e)
    exact k g σ H .refl cs sr
theorem sS_cnt : PS X (.Continue pos) (tS P X .cnt) :=
  ps_continue.imp fun D σ H ⟨g, sl, s, o, s', cs, sr, e, k⟩ => by
    obtain ⟨rfl, rfl⟩ := ok_inj (show O.ok (Out.ct sl) s = O.ok o s' from e)
    exact k g σ H .refl cs sr

/-! ### blocks -/
theorem sB_nil : PSs X [] (tB P X .nil) :=
  pss_nil.imp fun D σ H ⟨g, sl, s, o, s', cs, sr, e, k⟩ => by
    obtain ⟨rfl, rfl⟩ := ok_inj (show O.ok (Out.nx sl) s = O.ok o s' from e)
    exact k g σ H .refl cs sr
theorem sB_cons (h1 : PS X st (tS P X t)) (h2 : PSs X sts (tB P X bl)) : PSs X (st :: sts) (tB P X (.cons t bl)) :=
  (pss_cons h1 h2).imp fun D σ H ⟨g, sl, s, o, s', cs, sr, e, k⟩ => by
    obtain ⟨o1, s1, e1, q1⟩ := O.bind_ok (show ((evS P t sl s).bind fun o s => match o with | .nx sl => evB P bl sl s | o => .ok o s) = O.ok o s' from e)
    refine ⟨g, sl, s, o1, s1, cs, sr, e1, ?_⟩
    cases o1 with
    | nx sl1 => exact fun g1 σ1 H1 m1 c1 r1 => ⟨g1, sl1, s1, o, s', c1, r1, q1, k.mo m1⟩
    | rt v =>
      obtain ⟨rfl, rfl⟩ := ok_inj (show O.ok (Out.rt v) s1 = O.ok o s' from q1)
      exact k
    | bk v =>
      obtain ⟨rfl, rfl⟩ := ok_inj (show O.ok (Out.bk v) s1 = O.ok o s' from q1)
      exact k
    | ct v =>
      obtain ⟨rfl, rfl⟩ := ok_inj (show O.ok (Out.ct v) s1 = O.ok o s' from q1)
      exact k

/-! ### if, for, while -/
theorem sS_ifs (hc : PT X e1 (tT P X c)) (ha : PSs X sts (tB P X bl)) (hb : PSs X sts2 (tB P X bl2)) : PS X (.If e1 sts sts2 pos) (tS P X (.ifs c bl bl2)) :=
  (ps_if hc ha hb).imp fun D σ H ⟨g, sl, s, o, s', cs, sr, e, k⟩ => by
    obtain ⟨q, s1, ec, q1⟩ := O.bind_ok e
    refine ⟨g, sl, s, q, s1, cs, sr, ec, fun g1 H1 m1 c1 => ?_⟩
    cases q with
    | true => exact ⟨g1, sl, s1, o, s', c1, m1.sr sr, q1, k.mo m1⟩
    | false => exact ⟨g1, sl, s1, o, s', c1, m1.sr sr, q1, k.mo m1⟩
def forTurn (P : Pg) (tg : Tg) (bl : BL) : Vl → Sl → Cells → O Out := fun x sl s => (bindT P tg x sl s).bind fun sl s => evB P bl sl s
theorem sS_for {iter : Expr} {it : I} (G : Good P X) (hp : PassesOwn (model X.prog X.w) X.A X.env X.xe) (hi : PI X tgx iter (tI P X it)) (hg : PG X tgx (tG P X tg)) (hb : PSs X sts (tB P X bl))
    (hs : ∀ x, foldedSetIterable iter X.env x = pure x) : PS X (.For tgx iter sts [] pos) (tS P X (.for tg it bl)) :=
  (ps_for hp G.calm hi hg hb hs).imp fun D σ H ⟨g, sl, s, o, s', cs, sr, e, k⟩ => by
    obtain ⟨xs, s1, ei, q1⟩ := O.bind_ok e
    have q1 : forLoop (forTurn P tg bl) xs sl s1 = .ok o s' := q1
    refine ⟨g, sl, s, xs, s1, cs, sr, ei, fun g1 H1 J m1 c1 wk => ?_⟩
    let W : Nat → L2.St → Hp → Prop := fun i σ H => ∃ g2 sl2 s2, Mo g1 H1 g2 H ∧ CS X.K X.mg g2 s2 H ∧ SR X.K X.mg g2 H sl2 σ ∧ forLoop (forTurn P tg bl) (xs.drop i) sl2 s2 = .ok o s' ∧ EndK X.K X.mg g2 H s' D o
    refine ⟨fun i m σ H => m = xs.length - i ∧ i ≤ xs.length ∧ W i σ H, ⟨xs.length, rfl, Nat.zero_le _, g1, sl, s1, .refl, c1, m1.sr sr, q1, k.mo m1⟩, ?_⟩
    rintro i m σ2 H2 ⟨rfl, hle, g2, sl2, s2, m2, c2, r2, el, k2⟩
    obtain ⟨w1, w2⟩ := wk g2 H2 m2
    cases hx : xs[i]? with
    | none =>
      have hi : xs.length ≤ i := List.getElem?_eq_none_iff.mp hx
      rw [List.drop_of_length_le hi] at el
      obtain ⟨rfl, rfl⟩ := ok_inj (show O.ok (Out.nx sl2) s2 = O.ok o s' from el)
      exact .inl ⟨by rw [Nat.le_antisymm hle hi]; exact w2, k2 g2 σ2 H2 .refl c2 r2⟩
    | some x =>
      have hi := (List.getElem?_eq_some_iff.mp hx).1
      rw [drop_at hx] at el
      obtain ⟨o1, s3, et, q3⟩ := O.bind_ok (show ((forTurn P tg bl x sl2 s2).bind fun o s => match o with
        | .nx sl => forLoop (forTurn P tg bl) (xs.drop (i + 1)) sl s
        | .ct sl => forLoop (forTurn P tg bl) (xs.drop (i + 1)) sl s
        | .bk sl => .ok (.nx sl) s
        | .rt v => .ok (.rt v) s) = O.ok o s' from el)
      obtain ⟨sl3, s4, eb, q4⟩ := O.bind_ok et
      obtain ⟨go, yl⟩ := w1 i x hx
      refine .inr ⟨go, W (i + 1), fun σ' H' w' => ⟨xs.length - (i + 1), by omega, rfl, hi, w'⟩, fun v H3 y => ?_⟩
      obtain ⟨g3, m3, c3, r3⟩ := yl v H3 y
      refine ⟨g3, sl2, s2, x, sl3, s4, c3 _ c2, m3.sr r2, r3, eb, fun g4 σ4 H4 m4 c4 r4 _ => ⟨g4, sl3, s4, o1, s3, c4, r4, q4, ?_⟩⟩
      have k4 := k2.mo (m3.trans m4)
      have m24 : Mo g1 H1 g4 H4 := m2.trans (m3.trans m4)
      cases o1 with
      | nx sl5 => exact fun g5 σ5 H5 m5 c5 r5 => ⟨g5, sl5, s3, m24.trans m5, c5, r5, q3, k4.mo m5⟩
      | ct sl5 => exact fun g5 σ5 H5 m5 c5 r5 => ⟨g5, sl5, s3, m24.trans m5, c5, r5, q3, k4.mo m5⟩
      | bk sl5 =>
        obtain ⟨rfl, rfl⟩ := ok_inj (show O.ok (Out.nx sl5) s3 = O.ok o s' from q3)
        exact fun g5 σ5 H5 m5 c5 r5 => k4 g5 σ5 H5 m5 c5 r5
      | rt v5 =>
        obtain ⟨rfl, rfl⟩ := ok_inj (show O.ok (Out.rt v5) s3 = O.ok o s' from q3)
        exact fun g5 u H5 m5 c5 r5 => k4 g5 u H5 m5 c5 r5
theorem sS_whl (hp : PassesOwn (model X.prog X.w) X.A X.env X.xe) (hc : PT X e1 (tT P X c)) (hb : PSs X sts (tB P X bl)) : PS X (.While e1 sts [] pos) (tS P X (.whl c bl)) :=
  (ps_while hp hc hb).imp fun D σ H ⟨g, sl, s, o, s', cs, sr, e, k⟩ => by
    have e : whlLoop (evT P c) (fun sl s => evB P bl sl s) P.fuel sl s = .ok o s' := e
    let W : Nat → L2.St → Hp → Prop := fun m σ H => ∃ g2 sl2 s2, CS X.K X.mg g2 s2 H ∧ SR X.K X.mg g2 H sl2 σ ∧ whlLoop (evT P c) (fun sl s => evB P bl sl s) m sl2 s2 = .ok o s' ∧ EndK X.K X.mg g2 H s' D o
    refine ⟨W, ⟨P.fuel, g, sl, s, cs, sr, e, k⟩, ?_⟩
    rintro m σ2 H2 ⟨g2, sl2, s2, c2, r2, el, k2⟩
    cases m with
    | zero => cases el
    | succ m =>
      obtain ⟨q, s3, et, q3⟩ := O.bind_ok (show ((evT P c sl2 s2).bind fun k s => match k with
        | false => .ok (.nx sl2) s
        | true => (evB P bl sl2 s).bind fun o s => match o with
          | .nx sl => whlLoop (evT P c) (fun sl s => evB P bl sl s) m sl s
          | .ct sl => whlLoop (evT P c) (fun sl s => evB P bl sl s) m sl s
          | .bk sl => .ok (.nx sl) s
          | .rt v => .ok (.rt v) s) = O.ok o s' from el)
      refine ⟨g2, sl2, s2, q, s3, c2, r2, et, fun g3 H3 m3 c3 => ?_⟩
      have k3 := k2.mo m3
      cases q with
      | false =>
        obtain ⟨rfl, rfl⟩ := ok_inj (show O.ok (Out.nx sl2) s3 = O.ok o s' from q3)
        show (if false = true then _ else _)
        rw [if_neg (by decide)]
        exact k3 g3 σ2 H3 .refl c3 (m3.sr r2)
      | true =>
        show (if true = true then _ else _)
        rw [if_pos rfl]
        obtain ⟨o1, s4, eb, q4⟩ := O.bind_ok (show ((evB P bl sl2 s3).bind fun o s => match o with
          | .nx sl => whlLoop (evT P c) (fun sl s => evB P bl sl s) m sl s
          | .ct sl => whlLoop (evT P c) (fun sl s => evB P bl sl s) m sl s
          | .bk sl => .ok (.nx sl) s
          | .rt v => .ok (.rt v) s) = O.ok o s' from q3)
        refine ⟨W m, fun σ' H' w' => ⟨m, Nat.lt_succ_self m, w'⟩, g3, sl2, s3, o1, s4, c3, m3.sr r2, eb, ?_⟩
        cases o1 with
        | nx sl5 => exact fun g5 σ5 H5 m5 c5 r5 => ⟨g5, sl5, s4, c5, r5, q4, k3.mo m5⟩
        | ct sl5 => exact fun g5 σ5 H5 m5 c5 r5 => ⟨g5, sl5, s4, c5, r5, q4, k3.mo m5⟩
        | bk sl5 =>
          obtain ⟨rfl, rfl⟩ := ok_inj (show O.ok (Out.nx sl5) s4 = O.ok o s' from q4)
          exact fun g5 σ5 H5 m5 c5 r5 => k3 g5 σ5 H5 m5 c5 r5
        | rt v5 =>
          obtain ⟨rfl, rfl⟩ := ok_inj (show O.ok (Out.rt v5) s4 = O.ok o s' from q4)
          exact fun g5 u H5 m5 c5 r5 => k3 g5 u H5 m5 c5 r5
end
end Sh
/-! Sh11: zip of lists, tuples and texts, mixed at will. -/
set_option linter.all false
set_option autoImplicit false
set_option maxRecDepth 100000
set_option maxHeartbeats 1000000
namespace Sh
open PySem PySem.Spec PyProof.Rows L2
/-- what zip may walk -/
inductive ZK where
  | l (a : Addr) | t (a : Addr) | s (z : Str) (k : Tok)
namespace ZK
def at_ (k : ZK) (it : Addr) (i : Nat) (h : Heap) : Prop := match k with
  | .l a => h.IsListIter it a i
  | .t a => h.IsTupleIter it a i
  | .s z k => h.IsStrIter it (strIterType z) z k i
def items (K : PySem.W.Frag) (H : Hp) (k : ZK) (xs : List V) : Prop := match k with
  | .l a => SqL K H a xs
  | .t a => SqT K H a xs
  | .s z _ => xs = z.cps.toList.map fun c => V.str ⟨#[c]⟩
def val : ZK → Value
  | .l a => .ref a
  | .t a => .ref a
  | .s z k => .str z k
def adr : ZK → List Addr
  | .l a => [a]
  | .t a => [a]
  | .s _ _ => []
def iob : ZK → Obj
  | .l a => { cls := .type "list_iterator", data := .fields #[.ref a, .int 0 0] }
  | .t a => { cls := .type "tuple_iterator", data := .fields #[.ref a, .int 0 0] }
  | .s z k => { cls := .type (strIterType z), data := .fields #[.str z k, .int 0 0] }
/-- what stands in the heap -/
def ok (h : Heap) : ZK → Prop
  | .l a => ∃ its, h.IsList a its
  | .t a => ∃ its, h.IsTuple a its
  | .s _ _ => True
theorem at_obj {k : ZK} {it : Addr} {i : Nat} {h : Heap} (x : k.at_ it i h) : ∃ o, h.get? it = some o ∧ ∀ v, o.data ≠ .cell v := by
  cases k with
  | l a => obtain ⟨o, e, _, d⟩ := x; exact ⟨o, e, fun v q => by rw [d] at q; cases q⟩
  | t a => obtain ⟨o, e, _, d⟩ := x; exact ⟨o, e, fun v q => by rw [d] at q; cases q⟩
  | s z k => obtain ⟨o, e, _, d⟩ := x; exact ⟨o, e, fun v q => by rw [d] at q; cases q⟩
theorem at_mono {k : ZK} {it : Addr} {i : Nat} {h h' : Heap} (x : k.at_ it i h) (m : ∀ o, h.get? it = some o → h'.get? it = some o) : k.at_ it i h' := by
  cases k with
  | l a => obtain ⟨o, e, r⟩ := x; exact ⟨o, m o e, r⟩
  | t a => obtain ⟨o, e, r⟩ := x; exact ⟨o, m o e, r⟩
  | s z k => obtain ⟨o, e, r⟩ := x; exact ⟨o, m o e, r⟩
theorem at_new {k : ZK} {it : Addr} {h : Heap} (e : h.get? it = some k.iob) : k.at_ it 0 h := by
  cases k <;> exact ⟨_, e, rfl, rfl⟩
theorem ok_push {h : Heap} {k : ZK} (x : k.ok h) (o : Obj) : k.ok (h.push o) := by
  cases k with
  | l a => obtain ⟨its, e⟩ := x; exact ⟨its, e.push o⟩
  | t a => obtain ⟨its, e⟩ := x; exact ⟨its, e.push o⟩
  | s z k => trivial
theorem iter {P : Program} {w : World} {A : Around} {E : Value → Shared → Prop} {s : Shared} {k : ZK} {Q : Value → Shared → Prop} (x : k.ok s.heap) (h : Q (.ref s.heap.objs.size) { s with heap := s.heap.push k.iob }) : wpAny (model P w) A (pyIter k.val) Q E s := by
  cases k with
  | l a => obtain ⟨its, e⟩ := x; exact wpAny_pyIter_list e h
  | t a => obtain ⟨its, e⟩ := x; exact wpAny_pyIter_tuple e h
  | s z k => exact wpAny_pyIter_strU h
end ZK
section
variable {X : Cx} {pins : List (Addr × Obj)} {σ : L2.St} {H : Hp} {s : Shared}
theorem vals_get {xs : List V} {us : List Value} {i : Nat} {u : Value} (r : Vals xs us) (h : us[i]? = some u) : ∃ x, xs[i]? = some x ∧ RelV x u := by
  have hl := r.length
  obtain ⟨hi, e⟩ := List.getElem?_eq_some_iff.mp h
  have hx : xs[i]? = some xs[i] := List.getElem?_eq_getElem (by omega)
  obtain ⟨v, ev, rv⟩ := r.get hx
  rw [h] at ev
  cases ev
  exact ⟨_, hx, rv⟩
theorem zk_src {k : ZK} {it : Addr} {xs : List V} (I : Inv X pins σ H s) (hh : X.A.handled = none) (hs : k.items X.K H xs) (hne : ∀ a ∈ k.adr, a ≠ it) :
    ∃ (P : Nat → Value → Prop) (St : Nat → Heap → Prop), Draws X.prog X.w X.A.in1 it (it :: k.adr) xs.length P St ∧ (∀ i v, P i v → ∃ x, xs[i]? = some x ∧ RelV x v) ∧ (∀ i, k.at_ it i s.heap → St i s.heap) ∧ (∀ i h, St i h → k.at_ it i h) := by
  cases k with
  | l a =>
    obtain ⟨its, rv, p, hz⟩ := I.list hs
    have D := Draws.list (prog := X.prog) (w := X.w) (A := X.A.in1) hh it a (hne a (by simp [ZK.adr])) its.toArray
    rw [show its.toArray.size = xs.length by rw [List.size_toArray, rv.length]] at D
    refine ⟨_, _, D, fun i v hp => vals_get rv (by simpa using hp), fun i h => ⟨h, p.isList⟩, fun i h q => q.1⟩
  | t a =>
    obtain ⟨its, rv, p, hz⟩ := I.tuple hs
    have D := Draws.tuple (prog := X.prog) (w := X.w) (A := X.A.in1) hh it a (hne a (by simp [ZK.adr])) its.toArray
    rw [show its.toArray.size = xs.length by rw [List.size_toArray, rv.length]] at D
    refine ⟨_, _, D, fun i v hp => vals_get rv (by simpa using hp), fun i h => ⟨h, p⟩, fun i h q => q.1⟩
  | s z k =>
    cases hs
    have D := Draws.text (prog := X.prog) (w := X.w) (A := X.A.in1) hh it z k
    rw [show z.cps.size = (z.cps.toList.map fun c => V.str ⟨#[c]⟩).length by rw [List.length_map, Array.length_toList]] at D
    refine ⟨_, _, D, fun i v ⟨c, u, e1, e2⟩ => ⟨.str ⟨#[c]⟩, ?_, ⟨u, e2⟩⟩, fun i h => h, fun i h q => q⟩
    rw [List.getElem?_map, Array.getElem?_toList, e1]
    rfl
theorem zk_inj {k : ZK} {xs ys : List V} (I : Inv X pins σ H s) (h : k.items X.K H xs) (h' : k.items X.K H ys) : ys = xs := by
  cases k with
  | l a => exact I.list_inj h' h
  | t a => exact I.tuple_inj h' h
  | s z k => exact h'.trans h.symm
end
def ItZ (K : PySem.W.Frag) (k1 k2 : ZK) : It :=
  ⟨fun i H => ∃ (xs ys : List V) (x y : V), k1.items K H xs ∧ k2.items K H ys ∧ xs[i]? = some x ∧ ys[i]? = some y,
    fun i H v H' => ∃ T x y, v = .ref T ∧ H T = none ∧ H' = upd H T (.tup [x, y]) ∧ (∀ xs, k1.items K H xs → xs[i]? = some x) ∧ ∀ ys, k2.items K H ys → ys[i]? = some y,
    fun i H => ∃ xs ys : List V, k1.items K H xs ∧ k2.items K H ys ∧ i ≤ xs.length ∧ i ≤ ys.length ∧ (xs.length = i ∨ ys.length = i)⟩
theorem na (n i j : Nat) (h : (i == j) = false) : n + i ≠ n + j := by
  have : i ≠ j := by simpa using h
  omega
theorem nl (n i : Nat) (h : n + i < n) : False := by omega
theorem cl {n c m : Nat} (h : n + 4 < m) (e : c = n + 4 ∨ c = n + 2 ∨ c = n + 3 ∨ c = n ∨ c = n + 1) : c < m := by omega
theorem cg {n c : Nat} (e : c = n + 4 ∨ c = n + 2 ∨ c = n + 3 ∨ c = n ∨ c = n + 1) : n ≤ c := by omega
theorem zsep {n : Nat} {k1 k2 : ZK} (h1 : ∀ a ∈ k1.adr, a < n) (h2 : ∀ a ∈ k2.adr, a < n) : ZipSep2 (n + 4) (n + 2) (n + 3) n (n + 1) (n :: k1.adr) ((n + 1) :: k2.adr) where
  TIz := na n 2 4 rfl
  TOz := na n 3 4 rfl
  TITO := na n 2 3 rfl
  TIi1 := na n 2 0 rfl
  mem1 := List.mem_cons_self
  zf1 := fun h => (List.mem_cons.mp h).elim (na n 4 0 rfl) fun e => nl n 4 (h1 _ e)
  Tf1 := fun h => (List.mem_cons.mp h).elim (na n 3 0 rfl) fun e => nl n 3 (h1 _ e)
  TIi2 := na n 2 1 rfl
  mem2 := List.mem_cons_self
  zf2 := fun h => (List.mem_cons.mp h).elim (na n 4 1 rfl) fun e => nl n 4 (h2 _ e)
  Tf2 := fun h => (List.mem_cons.mp h).elim (na n 3 1 rfl) fun e => nl n 3 (h2 _ e)
  sep1_2 := fun h => (List.mem_cons.mp h).elim (na n 0 1 rfl) fun e => nl n 0 (h2 _ e)
  sep2_1 := fun h => (List.mem_cons.mp h).elim (na n 1 0 rfl) fun e => nl n 1 (h1 _ e)
theorem turn_Z {P : Program} {w : World} {K : PySem.W.Frag} {elts : List Expr} {kk : Nat} {tpos : Pos} {n : Nat} {k1 k2 : ZK} (b1 : ∀ a ∈ k1.adr, a < n) (b2 : ∀ a ∈ k2.adr, a < n) :
    Turn P w K (.Tuple elts kk tpos) (ItZ K k1 k2) [n + 4, n + 2, n + 3, n, n + 1] (n + 4)
      (fun i h => IsZip h (n + 4) (n + 2) (n + 3) .none ∧ IsTupOf2 h (n + 2) (.ref n) (.ref (n + 1)) ∧ (∃ x y, IsTupOf2 h (n + 3) x y) ∧ k1.at_ n i h ∧ k2.at_ (n + 1) i h) where
  mem := by simp
  obj := fun i h st c hc => by
    obtain ⟨hz, hTI, ⟨x, y, hTO⟩, h1, h2⟩ := st
    have e' : c = n + 4 ∨ c = n + 2 ∨ c = n + 3 ∨ c = n ∨ c = n + 1 := by simpa using hc
    rcases e' with q | q | q | q | q
    · rw [q]; exact ⟨_, hz, fun v q => nomatch q⟩
    · rw [q]; exact ⟨_, hTI, fun v q => nomatch q⟩
    · rw [q]; exact ⟨_, hTO, fun v q => nomatch q⟩
    · rw [q]; exact ZK.at_obj h1
    · rw [q]; exact ZK.at_obj h2
  keep := fun i h h' st k => by
    obtain ⟨hz, hTI, ⟨x, y, hTO⟩, h1, h2⟩ := st
    exact ⟨k (n + 4) (by simp) _ hz, k (n + 2) (by simp) _ hTI, ⟨x, y, k (n + 3) (by simp) _ hTO⟩, ZK.at_mono h1 fun o q => k n (by simp) o q, ZK.at_mono h2 fun o q => k (n + 1) (by simp) o q⟩
  item := by
    intro X hP hw hK hc i pins s σ H E I hf st hg
    subst hP hw hK
    obtain ⟨hz, hTI, ⟨x0, y0, hTO⟩, h1, h2⟩ := st
    obtain ⟨xs, ys, x, y, hqx, hqy, hx, hy⟩ := hg
    obtain ⟨P1, St1, D1, f1, g1, t1⟩ := zk_src (it := n) I (I.ok.hd hc) hqx (fun a m => Nat.ne_of_lt (b1 a m))
    obtain ⟨P2, St2, D2, f2, g2, t2⟩ := zk_src (it := n + 1) I (I.ok.hd hc) hqy (fun a m => Nat.ne_of_lt (Nat.lt_succ_of_lt (b2 a m)))
    have hzl : n + 4 < s.heap.objs.size := Heap.lt_size hz
    refine wpAny_pyNext_zipD2_item (zsep b1 b2) D1 D2 hz hTI hTO (g1 i h1) (g2 i h2) (List.getElem?_eq_some_iff.mp hx).1 (List.getElem?_eq_some_iff.mp hy).1 fun u u2 h' tk p1 p2 z' TO' s1' s2' hT hsz hk => ?_
    obtain ⟨x', ex, rx⟩ := f1 i u p1
    obtain ⟨y', ey, ry⟩ := f2 i u2 p2
    refine ⟨_, rfl, wpAny_letOwnedTupleGo_zip (s := { s with heap := h', toks := tk }) z' fun h'' z'' sb => ?_⟩
    have hT2 : h''.get? s.heap.objs.size = some { cls := .type "tuple", data := .seq #[u, u2] } := (sb.2 _ (Nat.ne_of_gt hzl)).trans hT
    have new : ObjOk X.prog X.w (upd H s.heap.objs.size (.tup [x', y'])) h'' s.heap.objs.size (.tup [x', y']) :=
      ⟨by show 2 ≤ sizeLine; decide, [u, u2], .cons rx (.cons ry .nil), ⟨_, hT2, rfl, _, rfl⟩⟩
    have I1 : Inv X pins σ (upd H s.heap.objs.size (.tup [x', y'])) { s with heap := h'', toks := tk } :=
      I.turnedNew (t' := tk) (ch := [n + 4, n + 2, n + 3, n, n + 1]) (fun c o hb q => (sb.2 c (fun q' => hb (by simp [q']))).trans (hk c o (fun q' => hb (by simp [q'])) (fun q' => hb (by simp [q'])) (fun q' => hb (by simp [q'])) (fun q' => hb (by simp [q'])) q)) hf (Nat.le_refl _) new
    refine ⟨.ref s.heap.objs.size, _, I1, rfl, ⟨_, x', y', rfl, I.hok.fresh (Nat.le_refl _), rfl, fun l hl => by rw [zk_inj I hqx hl]; exact ex, fun l hl => by rw [zk_inj I hqy hl]; exact ey⟩, ⟨z'', ?_, ⟨u, u2, ?_⟩, ?_, ?_⟩, fun c hcm => ?_⟩
    · exact (sb.2 _ (na n 2 4 rfl)).trans (hk _ _ (na n 2 4 rfl) (na n 2 3 rfl) (na n 2 0 rfl) (na n 2 1 rfl) hTI)
    · exact (sb.2 _ (na n 3 4 rfl)).trans TO'
    · exact ZK.at_mono (t1 _ _ s1') fun o q => (sb.2 _ (na n 0 4 rfl)).trans q
    · exact ZK.at_mono (t2 _ _ s2') fun o q => (sb.2 _ (na n 1 4 rfl)).trans q
    · have hlt : c < s.heap.objs.size := by
        have e' : c = n + 4 ∨ c = n + 2 ∨ c = n + 3 ∨ c = n ∨ c = n + 1 := by simpa using hcm
        exact cl hzl e'
      rw [upd_ne (Nat.ne_of_lt hlt)]
      exact (hf c hcm).1
  done := by
    intro X hP hw hK hc i pins s σ H E I hf st hg
    subst hP hw hK
    obtain ⟨hz, hTI, ⟨x0, y0, hTO⟩, h1, h2⟩ := st
    obtain ⟨xs, ys, hqx, hqy, hle1, hle2, hend⟩ := hg
    obtain ⟨P1, St1, D1, f1, g1, t1⟩ := zk_src (it := n) I (I.ok.hd hc) hqx (fun a m => Nat.ne_of_lt (b1 a m))
    obtain ⟨P2, St2, D2, f2, g2, t2⟩ := zk_src (it := n + 1) I (I.ok.hd hc) hqy (fun a m => Nat.ne_of_lt (Nat.lt_succ_of_lt (b2 a m)))
    refine wpAny_pyNext_zipD2_end (zsep b1 b2) D1 D2 hz hTI hTO (g1 i h1) (g2 i h2) hle1 hle2 (hend.imp Eq.symm Eq.symm) fun h' tk hk => ⟨rfl, I.turnedL (t' := tk) (ch := [n + 4, n + 2, n + 3, n, n + 1]) (fun c o hb q =>
      hk c o (fun q' => hb (by simp [q'])) (fun q' => hb (by simp [q'])) (fun q' => hb (by simp [q'])) (fun q' => hb (by simp [q'])) q) hf⟩
  self := fun A i s Q E st h => wpAny_pyIter_zip st.1 h

/-! ### zip(x, y) made -/
abbrev zG1 (h : Heap) (k1 : ZK) : Heap := h.push k1.iob
abbrev zG2 (h : Heap) (k1 k2 : ZK) : Heap := (zG1 h k1).push k2.iob
abbrev zG3 (h : Heap) (k1 k2 : ZK) : Heap := (zG2 h k1 k2).push { cls := .type "tuple", data := .seq #[.ref h.objs.size, .ref (zG1 h k1).objs.size] }
abbrev zG4 (h : Heap) (k1 k2 : ZK) : Heap := (zG3 h k1 k2).push { cls := .type "tuple", data := .seq #[.none, .none] }
abbrev zG5 (h : Heap) (k1 k2 : ZK) : Heap := (zG4 h k1 k2).push { cls := .type "zip", data := .fields #[.none, .bool false, .bool false, .ref (zG2 h k1 k2).objs.size, .ref (zG3 h k1 k2).objs.size] }
theorem meets_zG (k1 k2 : ZK) : Meets (Builtin.«zip.__new__» ⟨[.type "zip", k1.val, k2.val], []⟩) (fun _ R s => k1.ok s.heap ∧ k2.ok s.heap ∧ R (.ok (.ret (.ref (zG4 s.heap k1 k2).objs.size))) { s with heap := zG5 s.heap k1 k2 }) :=
  .of_wp fun prog w A R s h => by
    obtain ⟨hp, g, d, tk, os⟩ := s; obtain ⟨hl1, hl2, h⟩ := h
    have hsub := sub_zip
    have hL1 : k1.ok (Shared.heap ⟨hp, g, d, tk, os⟩) := hl1
    have hL2 : k2.ok (Shared.heap ⟨hp.push k1.iob, g, d, tk, os⟩) := ZK.ok_push hl2 _
    wp_walk using ZK.iter hL1, ZK.iter hL2
    exact ⟨_, rfl, h⟩
section
variable {prog : Program} {w : World} {A : Around} {E : Value → Shared → Prop} {s : Shared}
theorem call_zG {k1 k2 : ZK} {Q : Value → Shared → Prop} (h1 : k1.ok s.heap) (h2 : k2.ok s.heap)
    (h : ∀ h', IsZip h' (s.heap.objs.size + 4) (s.heap.objs.size + 2) (s.heap.objs.size + 3) .none → IsTupOf2 h' (s.heap.objs.size + 2) (.ref s.heap.objs.size) (.ref (s.heap.objs.size + 1)) →
      IsTupOf2 h' (s.heap.objs.size + 3) .none .none → k1.at_ s.heap.objs.size 0 h' → k2.at_ (s.heap.objs.size + 1) 0 h' → (∀ c o, s.heap.get? c = some o → h'.get? c = some o) → Q (.ref (s.heap.objs.size + 4)) { s with heap := h' }) :
    wpAny (model prog w) A (call (.type "zip") [k1.val, k2.val]) Q E s := by
  refine callType_new F.called_zip (by decide) (F.typeCall_zip_2 _ _) (F.newCall_zip_2 _ _) (fun obj => F.args_object_init_3 obj _ _) F.entry_zip_new (meets_zG k1 k2) ⟨h1, h2, ?_⟩
  have z1 : (zG1 s.heap k1).objs.size = s.heap.objs.size + 1 := Heap.size_push ..
  have z2 : (zG2 s.heap k1 k2).objs.size = s.heap.objs.size + 2 := by rw [Heap.size_push, z1]
  have z3 : (zG3 s.heap k1 k2).objs.size = s.heap.objs.size + 3 := by rw [Heap.size_push, z2]
  have z4 : (zG4 s.heap k1 k2).objs.size = s.heap.objs.size + 4 := by rw [Heap.size_push, z3]
  have a5 : (zG5 s.heap k1 k2).get? (zG4 s.heap k1 k2).objs.size = some _ := Heap.get?_push_size _ rfl
  have a4 : (zG5 s.heap k1 k2).get? (zG3 s.heap k1 k2).objs.size = some _ := Heap.get?_push_of_some _ (Heap.get?_push_size _ rfl)
  have a3 : (zG5 s.heap k1 k2).get? (zG2 s.heap k1 k2).objs.size = some _ := Heap.get?_push_of_some _ (Heap.get?_push_of_some _ (Heap.get?_push_size _ rfl))
  have a2 : (zG5 s.heap k1 k2).get? (zG1 s.heap k1).objs.size = some k2.iob := Heap.get?_push_of_some _ (Heap.get?_push_of_some _ (Heap.get?_push_of_some _ (Heap.get?_push_size _ (by cases k2 <;> rfl))))
  have a1 : (zG5 s.heap k1 k2).get? s.heap.objs.size = some k1.iob := Heap.get?_push_of_some _ (Heap.get?_push_of_some _ (Heap.get?_push_of_some _ (Heap.get?_push_of_some _ (Heap.get?_push_size _ (by cases k1 <;> rfl)))))
  show _ ∧ _
  rw [z2, z3, z4] at a5
  rw [z1, z2] at a3
  rw [z3] at a4
  rw [z1] at a2
  rw [z4]
  exact ⟨⟨_, a5, rfl⟩, h _ a5 a3 a4 (ZK.at_new a1) (ZK.at_new a2) fun c o x =>
    Heap.get?_push_of_some _ (Heap.get?_push_of_some _ (Heap.get?_push_of_some _ (Heap.get?_push_of_some _ (Heap.get?_push_of_some _ x))))⟩
end
/-- a value that zip may walk -/
def ZM (K : PySem.W.Frag) (H : Hp) (v : V) (m : Tok → ZK) (xs : List V) : Prop := (∀ u, RelV v u → ∃ t, (m t).val = u) ∧ ∀ t, (m t).items K H xs
def iZ (K : PySem.W.Frag) (ta : TA) : TI := fun σ H R => ta σ H fun vs H1 => ∃ v1 v2 m1 m2 xs ys, vs = [v1, v2] ∧ ZM K H1 v1 m1 xs ∧ ZM K H1 v2 m2 ys ∧ ∀ t1 t2, R (ItZ K (m1 t1) (m2 t2)) H1
theorem zk_ok {X : Cx} {pins : List (Addr × Obj)} {σ : L2.St} {H : Hp} {s : Shared} {k : ZK} {xs : List V} (I : Inv X pins σ H s) (h : k.items X.K H xs) : k.ok s.heap ∧ ∀ a ∈ k.adr, a < s.heap.objs.size := by
  cases k with
  | l a =>
    obtain ⟨its, _, p, _⟩ := I.list h
    refine ⟨⟨_, p.isList⟩, fun b hb => ?_⟩
    rw [List.mem_singleton.mp hb]
    exact p.lt
  | t a =>
    obtain ⟨its, _, p, _⟩ := I.tuple h
    refine ⟨⟨_, p⟩, fun b hb => ?_⟩
    rw [List.mem_singleton.mp hb]
    obtain ⟨o, e, _⟩ := p
    exact Heap.lt_size e
  | s z k => exact ⟨trivial, fun b hb => by cases hb⟩
theorem pi_Z {X : Cx} {e e2 : Expr} {ta : TA} {p pos tpos : Pos} {elts : List Expr} {kk : Nat} (hg : Gl X "zip") (hm : X.mg "zip" = none) (ha : PA X [e, e2] ta)
    (hs : starEach [e, e2] X.env = (false, eval e X.env) :: starEach [e2] X.env) (hpl : (backTo pos (starEach [e2] X.env)).any (·.1) = false) :
    PI X (.Tuple elts kk tpos) (.Call (.Name "zip" p) [e, e2] [] pos) (iZ X.K ta) := by
  refine ⟨fun pins s σ H R I h => ?_⟩
  refine Call_ (ld_blt I hg hm PyProof.Rows.boot_zip (PyProof.Rows.callWith_type1 (thn (ha.run pos pins s σ H _ I h) fun us s1 ⟨vs, H1, I1, r1, q1⟩ => ?_) hs hpl))
  obtain ⟨v1, v2, m1, m2, xs, ys, ex, z1, z2, q⟩ := q1
  subst ex
  cases r1 with
  | cons r rr =>
    cases rr with
    | cons r' rr =>
      cases rr
      obtain ⟨t1, rfl⟩ := z1.1 _ r
      obtain ⟨t2, rfl⟩ := z2.1 _ r'
      have i1 := z1.2 t1
      have i2 := z2.2 t2
      obtain ⟨o1, b1⟩ := zk_ok I1 i1
      obtain ⟨o2, b2⟩ := zk_ok I1 i2
      refine call_zG o1 o2 fun h' hz hTI hTO h1 h2 hk => wpAny_pyIter_zip hz ?_
      have I2 : Inv X pins σ H1 { s1 with heap := h' } := I1.kept (t' := s1.toks) hk
      refine ⟨s1.heap.objs.size + 4, [s1.heap.objs.size + 4, s1.heap.objs.size + 2, s1.heap.objs.size + 3, s1.heap.objs.size, s1.heap.objs.size + 1], _, _, H1, rfl, I2, turn_Z b1 b2, ⟨hz, hTI, ⟨_, _, hTO⟩, h1, h2⟩, fun c hcm => ?_, q t1 t2⟩
      have e' : c = s1.heap.objs.size + 4 ∨ c = s1.heap.objs.size + 2 ∨ c = s1.heap.objs.size + 3 ∨ c = s1.heap.objs.size ∨ c = s1.heap.objs.size + 1 := by simpa using hcm
      have hle : s1.heap.objs.size ≤ c := cg e'
      have f := I1.fpOk (H' := H1) hle (I1.hok.fresh hle)
      exact f
/-! ### zip in the small language -/
section
variable {K : PySem.W.Frag} {mg : Str → Option Value} {g g' : Gh} {H H' : Hp} {s : Cells}
/-- what zip walks, for good -/
def ZD (K : PySem.W.Frag) (g : Gh) (H : Hp) (m : Tok → ZK) (ds : List PyData) : Prop := ∃ xs, DZs K g.Z H xs ds ∧ ∀ g' H', Mo g H g' H' → ∀ t, (m t).items K H' xs
theorem zd_of {x : Vl} {v : V} {ys : List Vl} {ds : List PyData} (r : RL K mg g H x v) (e : itemsV s x = some ys) (ea : allP ys = some ds) : ∃ m, (∀ u, RelV v u → ∃ t, (m t : ZK).val = u) ∧ ZD K g H m ds := by
  cases x with
  | p d =>
    cases d with
    | list es =>
      cases e
      rw [allP_map] at ea
      cases ea
      cases r.dz with
      | @lst a xs _ h z hs => exact ⟨fun _ => .l a, fun u ru => ⟨0, by cases ru; rfl⟩, xs, hs, fun g' H' m _ => SqL.of (m.fd _ _ z h)⟩
    | tuple es =>
      cases e
      rw [allP_map] at ea
      cases ea
      cases r.dz with
      | @tup a xs _ h hs => exact ⟨fun _ => .t a, fun u ru => ⟨0, by cases ru; rfl⟩, xs, hs, fun g' H' m _ => m.sqt h⟩
    | str z =>
      cases e
      cases r.dz
      refine ⟨fun t => .s z t, fun u ru => ?_, z.cps.toList.map fun c => V.str ⟨#[c]⟩, ?_, fun g' H' m _ => rfl⟩
      · obtain ⟨t, rfl⟩ := ru
        exact ⟨t, rfl⟩
      · have e2 : ds = z.cps.toList.map fun c => PyData.str ⟨#[c]⟩ := by
          have := allP_map (z.cps.toList.map fun c => PyData.str ⟨#[c]⟩)
          rw [List.map_map] at this
          have ea : allP (z.cps.toList.map ((fun d => Vl.p d) ∘ fun c => PyData.str ⟨#[c]⟩)) = some ds := ea
          rw [show (z.cps.toList.map ((fun d => Vl.p d) ∘ fun c => PyData.str ⟨#[c]⟩)) = List.map (Vl.p ∘ fun c => PyData.str ⟨#[c]⟩) z.cps.toList from rfl, this] at ea
          exact (Option.some.inj ea).symm
        rw [e2]
        generalize z.cps.toList = l
        induction l with
        | nil => exact .nil
        | cons c r ih => exact .cons (.str _) ih
    | _ => cases e
  | _ => cases e
theorem ZD.mo {m : Tok → ZK} {ds : List PyData} (h : ZD K g H m ds) (o : Mo g H g' H') : ZD K g' H' m ds := by
  obtain ⟨xs, h1, h2⟩ := h
  exact ⟨xs, o.dzs h1, fun g2 H2 o2 t => h2 g2 H2 (o.trans o2) t⟩
theorem walk_zip {m1 m2 : Tok → ZK} {t1 t2 : Tok} {ds es : List PyData} (h1 : ZD K g H m1 ds) (h2 : ZD K g H m2 es) :
    Walk K mg g H ((ds.zip es).map fun q => Vl.p (.tuple [q.1, q.2])) (ItZ K (m1 t1) (m2 t2)) := by
  obtain ⟨xs, a1, b1⟩ := h1
  obtain ⟨ys, a2, b2⟩ := h2
  intro g1 H1 m
  have i1 := b1 g1 H1 m t1
  have i2 := b2 g1 H1 m t2
  have l1 := a1.length
  have l2 := a2.length
  refine ⟨fun i x e => ?_, ?_⟩
  · rw [List.getElem?_map] at e
    obtain ⟨q, e1, rfl⟩ := mapf e
    obtain ⟨e3, e4⟩ := List.getElem?_zip_eq_some.mp e1
    obtain ⟨u, e5, r5⟩ := a1.get e3
    obtain ⟨w, e6, r6⟩ := a2.get e4
    refine ⟨⟨xs, ys, u, w, i1, i2, e5, e6⟩, fun v H2 y => ?_⟩
    obtain ⟨T, x', y', rfl, hT, rfl, f1, f2⟩ := y
    have f1 := f1 xs i1
    have f2 := f2 ys i2
    rw [e5] at f1
    rw [e6] at f2
    cases f1; cases f2
    have mo := m.trans (Mo.alloc (o := .tup [u, w]) hT)
    exact ⟨g1, Mo.alloc hT, fun s c => c.alloc hT, .p (.tup (SqT.of upd_same) (.cons (mo.dz r5) (.cons (mo.dz r6) .nil)))⟩
  · refine ⟨xs, ys, i1, i2, ?_⟩
    rw [List.length_map, List.length_zip, ← l1, ← l2]
    omega
theorem sI_zip {P : Pg} {X : Cx} {a b : E} {e e2 : Expr} {p pos tpos : Pos} {elts : List Expr} {kk : Nat} (G : Good P X) (hg : Gl X "zip") (ha : PE X e (tE P X a)) (hb : PE X e2 (tE P X b)) (p1 : plainX e = true) (p2 : plainX e2 = true) :
    PI X (.Tuple elts kk tpos) (.Call (.Name "zip" p) [e, e2] [] pos) (tI P X (.zip a b)) := ⟨fun pins st σ H R I ⟨g, sl, s, xs, s', cs, sr, ev, k⟩ => by
  obtain ⟨x, s1, ea, q1⟩ := O.bind_ok ev
  obtain ⟨y, s2, eb, q2⟩ := O.bind_ok q1
  obtain ⟨us, s3, eu, q3⟩ := O.bind_ok q2
  obtain ⟨eu, eq⟩ := lift_ok eu
  rw [eq] at q3
  obtain ⟨ws, s4, ew, q4⟩ := O.bind_ok q3
  obtain ⟨ew, eq⟩ := lift_ok ew
  rw [eq] at q4
  obtain ⟨ds, s5, ed, q5⟩ := O.bind_ok q4
  obtain ⟨ed, eq⟩ := lift_ok ed
  rw [eq] at q5
  obtain ⟨es, s6, ee, q6⟩ := O.bind_ok q5
  obtain ⟨ee, eq⟩ := lift_ok ee
  rw [eq] at q6
  obtain ⟨rfl, rfl⟩ := ok_inj (show O.ok ((ds.zip es).map fun q => Vl.p (.tuple [q.1, q.2])) s2 = O.ok xs s' from q6)
  refine (pi_Z hg (G.free _ (by decide)) (pa_cons ha (pa_cons hb pa_nil (starEach_plain p2)) (starEach_plain p1)) (starEach_plain p1) (starEach_none (es := [e2]) (by show (plainX e2 && plainXs []) = true; rw [p2]; rfl))).run pins st σ H R I
    (two cs sr ea eb fun g2 v1 v2 H2 m2 c2 r1 r2 => ?_)
  obtain ⟨m1, f1, z1⟩ := zd_of r1 eu ed
  obtain ⟨n1, f2, z2⟩ := zd_of r2 ew ee
  obtain ⟨vs1, _, b1⟩ := id z1
  obtain ⟨vs2, _, b2⟩ := id z2
  exact ⟨v1, v2, m1, n1, vs1, vs2, rfl, ⟨f1, b1 g2 H2 .refl⟩, ⟨f2, b2 g2 H2 .refl⟩, fun t1 t2 => k g2 H2 _ m2 c2 (walk_zip z1 z2)⟩⟩
end
end Sh
/-! Sh12: the matcher of expressions: a Bool that says that a tree is what a term says. -/
set_option linter.all false
set_option autoImplicit false
set_option maxRecDepth 100000
set_option maxHeartbeats 1000000
namespace Sh
open PySem PySem.Spec PyProof.Rows L2
structure MC where
  N : List Str
  sc : Scope
  inFn : Bool
  names : List (Str × List Str)
def opEq (o : BOp) (r : Operator) : Bool := match o, r with
  | .add, .Add => true | .sub, .Sub => true | .mul, .Mult => true | .fdiv, .FloorDiv => true | .mod, .Mod => true | .pow, .Pow => true
  | _, _ => false
def copEq (o : COp) (r : CmpOp) : Bool := match o, r with
  | .lt, .Lt => true | .le, .LtE => true | .gt, .Gt => true | .ge, .GtE => true | .eq, .Eq => true | .ne, .NotEq => true
  | .is, .Is => true | .nis, .IsNot => true | .isin, .In => true | .nin, .NotIn => true
  | _, _ => false
def boEq (k : Bool) (r : BoolOp) : Bool := match k, r with
  | true, .And => true | false, .Or => true | _, _ => false
theorem opEq_ok {o : BOp} {r : Operator} (h : opEq o r = true) : r = opr o := by
  cases o <;> cases r <;> first | rfl | exact Bool.noConfusion h
theorem copEq_ok {o : COp} {r : CmpOp} (h : copEq o r = true) : r = copr o := by
  cases o <;> cases r <;> first | rfl | exact Bool.noConfusion h
theorem boEq_ok {k : Bool} {r : BoolOp} (h : boEq k r = true) : r = bopr k := by
  cases k <;> cases r <;> first | rfl | exact Bool.noConfusion h
def notDbg (x : Str) : Bool := !(x == ("__debug__" : Str)) && !(x == ("__classdict__" : Str))
def visB (sc : Scope) (x : Str) : Bool := match sc.names.lookup x with
  | some .local => true | some .cell => true | some .free => true | _ => false
def glB (sc : Scope) (x : Str) : Bool := match sc.names.lookup x with
  | some .globalImplicit => true | _ => false
def tgB (C : MC) (x : Str) : Bool := match C.sc.names.lookup x with
  | some .local => true | some .cell => C.inFn | _ => false
def tycB (x : Str) (n : String) : Bool := decide (n ∈ ["int", "str", "list", "tuple", "bool"]) && decide (x = Str.ofString n)
def nlB : B → Bool
  | .lenset => false
  | _ => true
def isTrueE : E → Bool
  | .bl true => true
  | _ => false
def isNon : E → Bool
  | .non => true
  | _ => false
def notSet : Expr → Bool
  | .Set _ _ _ => false
  | _ => true
def eqS (x y : Str) : Bool := decide (x = y)
def subB (us : List Nat) (own : List (Str × Nat)) : Bool := us.all fun i => (own.map (·.2)).contains i
mutual
def mE (C : MC) : E → Expr → Bool
  | .non => fun e => match e with | .Constant .none _ _ => true | _ => false
  | .emp => fun e => match e with | .Dict [] [] _ => true | _ => false
  | .bl b => fun e => match e with | .Constant (.bool q) _ _ => decide (b = q) | _ => false
  | .int i => fun e => match e with | .Constant (.int j) _ _ => decide (i = j) | _ => false
  | .str x => fun e => match e with | .Constant (.str y) _ _ => eqS x y | _ => false
  | .var i => fun e => match e with | .Name x _ => decide (C.N[i]? = some x) && visB C.sc x && notDbg x | _ => false
  | .glo x => fun e => match e with | .Name y _ => eqS x y && glB C.sc y && notDbg y | _ => false
  | .tyc x n => fun e => match e with | .Name y _ => eqS x y && glB C.sc y && tycB x n | _ => false
  | .neg a => fun e => match e with | .UnaryOp .USub r _ => mE C a r | _ => false
  | .not a => fun e => match e with | .UnaryOp .Not r _ => mE C a r | _ => false
  | .bin o a b => fun e => match e with | .BinOp l op r _ => opEq o op && mE C a l && mE C b r | _ => false
  | .cmp o a b => fun e => match e with | .Compare l [op] [r] _ => copEq o op && !behindInMarks op r && mE C a l && mE C b r | _ => false
  | .chain o o' a b c => fun e => match e with | .Compare l [op, op'] [r, r'] _ => copEq o op && copEq o' op' && !lastMarks [op, op'] [r, r'] && mE C a l && mE C b r && mE C c r' | _ => false
  | .bool k a b => fun e => match e with | .BoolOp op (e1 :: e2 :: rest) p => boEq k op && mE C a e1 && mE C b (.BoolOp op (e2 :: rest) p) | _ => false
  | .one a => fun e => match e with | .BoolOp _ [e1] _ => mE C a e1 | _ => false
  | .ife c a b => fun e => match e with | .IfExp t x y _ => mE C c t && mE C a x && mE C b y | _ => false
  | .tup l => fun e => match e with | .Tuple es _ _ => mL C l es && Nat.ble (lenL l) 10000 | _ => false
  | .lst l => fun e => match e with | .List es _ => mL C l es && Nat.ble (lenL l) 10000 | _ => false
  | .cell l => fun e => match e with | .List es _ => mL C l es && Nat.ble (lenL l) 10000 | _ => false
  | .ix a i => fun e => match e with | .Subscript x y _ => notSl y && mE C a x && mE C i y | _ => false
  | .sl a lo hi => fun e => match e with
    | .Subscript x (.Slice ol oh none _) _ => mE C a x && (match ol with | none => isNon lo | some y => !isNon lo && mE C lo y) && (match oh with | none => isNon hi | some y => !isNon hi && mE C hi y)
    | _ => false
  | .slrev a => fun e => match e with | .Subscript x (.Slice none none (some (.UnaryOp .USub (.Constant (.int 1) _ _) _)) _) _ => mE C a x | _ => false
  | .frz a => fun e => match e with | .Name x p => mE C a (.Name x p) | _ => false
  | .call f l => fun e => match e with
    | .Call (.Name x _) es [] _ => (match C.names[f]? with | some (y, ps) => eqS x y && decide (lenL l = ps.length) | none => false) && glB C.sc x && notDbg x && plainXs es && mL C l es
    | _ => false
  | .callK f k a => fun e => match e with
    | .Call (.Name x _) [] [⟨some k1, v, _⟩] _ => (match C.names[f]? with | some (y, [k2]) => eqS x y && eqS k1 k2 && eqS k k1 | _ => false) && glB C.sc x && notDbg x && mE C a v
    | _ => false
  | .blt q l => fun e => match nlB q with
    | true => (match e with
      | .Call (.Name x _) (e1 :: es) [] _ => eqS (bname q) x && glB C.sc x && plainXs (e1 :: es) && mL C l (e1 :: es)
      | _ => false)
    | false => (match e with
      | .Call (.Name x _) [.Call (.Name y _) [e1] [] _] [] _ => eqS x "len" && eqS y "set" && glB C.sc x && glB C.sc y && mL C l [e1]
      | _ => false)
  | .mth m o l => fun e => match e with
    | .Call (.Attribute x nm ap) es [] cp => eqS nm (mname m) && mE C o x && notCall0 x && (ap.endLine == cp.line) && plainXs es && decide (es.length < 30) && mL C l es
    | _ => false
  | .lc elt tg it c own => fun e => match e with
    | .ListComp x [⟨tx, ix, ifs, 0⟩] scope _ => blkC C.N C.sc scope own && subB (slotsT tg) own && notSet ix && mI C it tx ix && mT { C with sc := relS scope C.sc, inFn := false } tg tx &&
      (match ifs with | [] => isTrueE c | [cx] => mE { C with sc := relS scope C.sc, inFn := false } c cx | _ => false) && mE { C with sc := relS scope C.sc, inFn := false } elt x
    | _ => false
def mL (C : MC) : L → List Expr → Bool
  | .nil => fun es => match es with | [] => true | _ => false
  | .cons a l => fun es => match es with | e :: r => plainX e && mE C a e && mL C l r | _ => false
def mI (C : MC) : I → Expr → Expr → Bool
  | .val a => fun _ e => mE C a e
  | .rng1 a => fun _ e => match e with | .Call (.Name x _) [y] [] _ => eqS x "range" && glB C.sc x && plainX y && mE C a y | _ => false
  | .rng2 a b => fun _ e => match e with | .Call (.Name x _) [y, z] [] _ => eqS x "range" && glB C.sc x && plainX y && plainX z && mE C a y && mE C b z | _ => false
  | .zip a b => fun t e => match t with
    | .Tuple _ _ _ => (match e with | .Call (.Name x _) [y, z] [] _ => eqS x "zip" && glB C.sc x && plainX y && plainX z && mE C a y && mE C b z | _ => false)
    | _ => false
  | .enum _ => fun _ _ => false
def mT (C : MC) : Tg → Expr → Bool
  | .nm i => fun e => match e with | .Name x _ => decide (C.N[i]? = some x) && tgB C x | _ => false
  | .tp l => fun e => match e with | .Tuple es _ _ => plainXs es && decide (lenT l = es.length) && mTL C l es | _ => false
  | .sub o i => fun e => match e with | .Subscript x y _ => notSl y && mE C o x && mE C i y | _ => false
def mTL (C : MC) : TLs → List Expr → Bool
  | .nil => fun es => match es with | [] => true | _ => false
  | .cons t l => fun es => match es with | e :: r => plainX e && mT C t e && mTL C l r | _ => false
end

/-! ### soundness -/
structure MCk (P : Pg) (X : Cx) (C : MC) : Prop where
  good : Good P X
  hN : X.N = C.N
  hsc : X.env.scope = C.sc
  nms : P.names = C.names
  fn : C.inFn = true → ∀ x, X.fn x = true
section
variable {P : Pg} {X : Cx} {C : MC}
theorem MCk.blk (K : MCk P X C) (s : Shared) (H : Hp) (scope : Scope) (cl : List (Str × Addr)) (Ca : Addr) (fp : List Addr) : MCk P (X.blk s H scope (compEnvC scope cl Ca X.env) fp) { C with sc := relS scope C.sc, inFn := false } where
  good := K.good.blk s H scope _ fp
  hN := K.hN
  hsc := by
    show relabel scope X.env = relS scope C.sc
    rw [← K.hsc]; rfl
  nms := K.nms
  fn := fun h => by cases h
theorem MCk.vis (K : MCk P X C) {x : Str} (h : visB C.sc x = true) : Vis X.env.scope x := by
  unfold visB at h
  rw [K.hsc]
  split at h
  · exact .inl (by assumption)
  · exact .inr (.inl (by assumption))
  · exact .inr (.inr (by assumption))
  · cases h
theorem MCk.gl (K : MCk P X C) {x : Str} (h : glB C.sc x = true) : Gl X x := by
  unfold glB at h
  show X.env.scope.names.lookup x = _
  rw [K.hsc]
  split at h
  · assumption
  · cases h
theorem MCk.tg (K : MCk P X C) {x : Str} (h : tgB C x = true) : L2.Loc X.env.scope x ∧ (X.fn x = true ∨ X.env.scope.names.lookup x = some .local) := by
  unfold tgB at h
  rw [K.hsc]
  unfold L2.Loc
  split at h
  · rename_i q; exact ⟨.inl q, .inr q⟩
  · rename_i q; exact ⟨.inr q, .inl (K.fn h x)⟩
  · cases h
theorem notDbg_ok {x : Str} (h : notDbg x = true) : (x == ("__debug__" : Str)) = false ∧ (x == ("__classdict__" : Str)) = false := by
  obtain ⟨h1, h2⟩ := and2 h
  exact ⟨by simpa using h1, by simpa using h2⟩
theorem eqS_ok {x y : Str} (h : eqS x y = true) : x = y := of_decide_eq_true h
theorem tycB_ok {x : Str} {n : String} (h : tycB x n = true) : bootBuiltins x = some (.type n) ∧ x ≠ "__name__" ∧ (x == ("__debug__" : Str)) = false ∧ x ∈ bltNames := by
  obtain ⟨h1, h2⟩ := and2 h
  have h1 := of_decide_eq_true h1
  cases of_decide_eq_true h2
  have h1 : n = "int" ∨ n = "str" ∨ n = "list" ∨ n = "tuple" ∨ n = "bool" := by simpa using h1
  rcases h1 with rfl | rfl | rfl | rfl | rfl <;> exact ⟨by decide +kernel, by decide, by decide, by decide⟩
def isBO : Expr → Bool
  | .BoolOp _ _ _ => true
  | _ => false
structure SE (P : Pg) (X : Cx) (a : E) (e : Expr) : Prop where
  pe : PE X e (tE P X a)
  pt : PT X e (tT P X a)
  pw : isBO e = true → PW X e (tT P X a)
theorem SE.plain {a : E} {e : Expr} (h : PE X e (tE P X a)) (he : ∀ whole, isTrue e X.env whole = (do let v ← whole; standAt e.pos; holding [v] (truthy v))) (nb : isBO e = false) : SE P X a e :=
  ⟨h, sT_plain h he, fun q => by rw [nb] at q; cases q⟩
theorem SE.bo {a : E} {op : BoolOp} {es : List Expr} {pos : Pos} (h : PE X (.BoolOp op es pos) (tE P X a)) (w : PW X (.BoolOp op es pos) (tT P X a)) : SE P X a (.BoolOp op es pos) := ⟨h, w.pt, fun _ => w⟩
theorem plainIx_of {e : Expr} (h : notSl e = true) : PlainIx e := fun o i => by
  cases e <;> first | rfl | exact Bool.noConfusion h
theorem notSet_of {e : Expr} {env : Env} (h : notSet e = true) : ∀ x, foldedSetIterable e env x = pure x := fun x => by
  cases e <;> first | rfl | exact Bool.noConfusion h
theorem notN {b : Bool} (h : (!b) = true) : b = false := by cases b <;> first | rfl | cases h
theorem isNon_of {a : E} (h : isNon a = true) : a = .non := by cases a <;> first | rfl | exact Bool.noConfusion h
theorem isTrueE_of {a : E} (h : isTrueE a = true) : a = .bl true := by
  cases a with
  | bl k => cases k <;> first | rfl | exact Bool.noConfusion h
  | _ => exact Bool.noConfusion h
theorem isNon_ne {a : E} (h : isNon a = false) : a ≠ .non := fun e => by rw [e] at h; cases h
theorem sub_ok {us : List Nat} {own : List (Str × Nat)} (h : subB us own = true) : ∀ i ∈ us, i ∈ own.map (·.2) := fun i hi => by
  have := List.all_eq_true.mp h i hi
  simpa using this
set_option maxHeartbeats 4000000 in
mutual
theorem mE_ok {P : Pg} : ∀ (a : E) {X : Cx} {C : MC} (K : MCk P X C) {e : Expr}, mE C a e = true → SE P X a e
  | .non, X, C, K, e, h => by
    cases e with
    | Constant c j pos =>
      cases c with
      | none => exact .plain sE_non (fun _ => rfl) rfl
      | _ => cases h
    | _ => cases h
  | .emp, X, C, K, e, h => by
    cases e with
    | Dict ks vs pos =>
      cases ks with
      | nil =>
        cases vs with
        | nil => exact .plain sE_emp (fun _ => rfl) rfl
        | _ => cases h
      | _ => cases h
    | _ => cases h
  | .bl b, X, C, K, e, h => by
    cases e with
    | Constant c j pos =>
      cases c with
      | bool q =>
        cases of_decide_eq_true (show decide (b = q) = true from h)
        exact .plain sE_bl (fun _ => rfl) rfl
      | _ => cases h
    | _ => cases h
  | .int i, X, C, K, e, h => by
    cases e with
    | Constant c j pos =>
      cases c with
      | int q =>
        cases of_decide_eq_true (show decide (i = q) = true from h)
        exact .plain sE_int (fun _ => rfl) rfl
      | _ => cases h
    | _ => cases h
  | .str x, X, C, K, e, h => by
    cases e with
    | Constant c j pos =>
      cases c with
      | str y =>
        cases eqS_ok (show eqS x y = true from h)
        exact .plain sE_str (fun _ => rfl) rfl
      | _ => cases h
    | _ => cases h
  | .var i, X, C, K, e, h => by
    cases e with
    | Name x pos =>
      obtain ⟨h, h3⟩ := and2 (show (decide (C.N[i]? = some x) && visB C.sc x && notDbg x) = true from h)
      obtain ⟨h1, h2⟩ := and2 h
      obtain ⟨d1, d2⟩ := notDbg_ok h3
      exact .plain (sE_var (by rw [K.hN]; exact of_decide_eq_true h1) (K.vis h2) d1 d2) (fun _ => rfl) rfl
    | _ => cases h
  | .glo x, X, C, K, e, h => by
    cases e with
    | Name y pos =>
      obtain ⟨h, h3⟩ := and2 (show (eqS x y && glB C.sc y && notDbg y) = true from h)
      obtain ⟨h1, h2⟩ := and2 h
      cases eqS_ok h1
      exact .plain (sE_glo K.good (K.gl h2) (notDbg_ok h3).1) (fun _ => rfl) rfl
    | _ => cases h
  | .tyc x n, X, C, K, e, h => by
    cases e with
    | Name y pos =>
      obtain ⟨h, h3⟩ := and2 (show (eqS x y && glB C.sc y && tycB x n) = true from h)
      obtain ⟨h1, h2⟩ := and2 h
      cases eqS_ok h1
      obtain ⟨t1, t2, t3, t4⟩ := tycB_ok h3
      exact .plain (sE_tyc (K.gl h2) (K.good.free _ t4) t1 t2 t3) (fun _ => rfl) rfl
    | _ => cases h
  | .neg a, X, C, K, e, h => by
    cases e with
    | UnaryOp op r pos =>
      cases op with
      | USub => exact .plain (sE_neg (mE_ok a K h).pe) (fun _ => rfl) rfl
      | _ => cases h
    | _ => cases h
  | .not a, X, C, K, e, h => by
    cases e with
    | UnaryOp op r pos =>
      cases op with
      | Not =>
        have q := mE_ok a K (e := r) h
        exact ⟨sE_not q.pe, sT_not q.pt, fun z => by cases z⟩
      | _ => cases h
    | _ => cases h
  | .bin o a b, X, C, K, e, h => by
    cases e with
    | BinOp l op r pos =>
      obtain ⟨h, h3⟩ := and2 (show (opEq o op && mE C a l && mE C b r) = true from h)
      obtain ⟨h1, h2⟩ := and2 h
      cases opEq_ok h1
      exact .plain (sE_bin K.good (mE_ok a K h2).pe (mE_ok b K h3).pe) (fun _ => rfl) rfl
    | _ => cases h
  | .cmp o a b, X, C, K, e, h => by
    cases e with
    | Compare l ops rs pos =>
      match ops, rs, h with
      | [op], [r], h =>
        obtain ⟨h, h4⟩ := and2 (show (copEq o op && !behindInMarks op r && mE C a l && mE C b r) = true from h)
        obtain ⟨h, h3⟩ := and2 h
        obtain ⟨h1, h2⟩ := and2 h
        cases copEq_ok h1
        have qa := mE_ok a K h3
        have qb := mE_ok b K h4
        exact ⟨sE_cmp K.good qa.pe qb.pe (notN h2), sT_cmp K.good qa.pe qb.pe (notN h2), fun z => by cases z⟩
      | [], _, h => cases h
      | [_], [], h => cases h
      | [_], _ :: _ :: _, h => cases h
      | _ :: _ :: _, _, h => cases h
    | _ => cases h
  | .chain o o' a b c, X, C, K, e, h => by
    cases e with
    | Compare l ops rs pos =>
      match ops, rs, h with
      | [op, op'], [r, r'], h =>
        obtain ⟨h, h6⟩ := and2 (show (copEq o op && copEq o' op' && !lastMarks [op, op'] [r, r'] && mE C a l && mE C b r && mE C c r') = true from h)
        obtain ⟨h, h5⟩ := and2 h
        obtain ⟨h, h4⟩ := and2 h
        obtain ⟨h, h3⟩ := and2 h
        obtain ⟨h1, h2⟩ := and2 h
        cases copEq_ok h1
        cases copEq_ok h2
        have qa := mE_ok a K h4
        have qb := mE_ok b K h5
        have qc := mE_ok c K h6
        exact ⟨sE_chain K.good qa.pe qb.pe qc.pe (notN h3), sT_chain K.good qa.pe qb.pe qc.pe (notN h3), fun z => by cases z⟩
      | [], _, h => cases h
      | [_], _, h => cases h
      | [_, _], [], h => cases h
      | [_, _], [_], h => cases h
      | [_, _], _ :: _ :: _ :: _, h => cases h
      | _ :: _ :: _ :: _, _, h => cases h
    | _ => cases h
  | .bool k a b, X, C, K, e, h => by
    cases e with
    | BoolOp op es pos =>
      match es, h with
      | e1 :: e2 :: rest, h =>
        obtain ⟨h, h3⟩ := and2 (show (boEq k op && mE C a e1 && mE C b (.BoolOp op (e2 :: rest) pos)) = true from h)
        obtain ⟨h1, h2⟩ := and2 h
        cases boEq_ok h1
        have qa := mE_ok a K h2
        have qb := mE_ok b K h3
        exact .bo (sE_bool qa.pe qb.pe) (sW_bool qa.pt (qb.pw rfl))
      | [], h => cases h
      | [_], h => cases h
    | _ => cases h
  | .one a, X, C, K, e, h => by
    cases e with
    | BoolOp op es pos =>
      match es, h with
      | [e1], h =>
        have qa := mE_ok a K (e := e1) h
        exact .bo (sE_one qa.pe) (sW_one qa.pt)
      | [], h => cases h
      | _ :: _ :: _, h => cases h
    | _ => cases h
  | .ife c a b, X, C, K, e, h => by
    cases e with
    | IfExp t x y pos =>
      obtain ⟨h, h3⟩ := and2 (show (mE C c t && mE C a x && mE C b y) = true from h)
      obtain ⟨h1, h2⟩ := and2 h
      have qc := mE_ok c K h1
      have qa := mE_ok a K h2
      have qb := mE_ok b K h3
      exact ⟨sE_ife qc.pt qa.pe qb.pe, sT_ife qc.pt qa.pt qb.pt, fun z => by cases z⟩
    | _ => cases h
  | .tup l, X, C, K, e, h => by
    cases e with
    | Tuple es k0 pos =>
      obtain ⟨h1, h2⟩ := and2 (show (mL C l es && Nat.ble (lenL l) 10000) = true from h)
      exact .plain (sE_tup (mL_ok l K h1) h2) (fun _ => rfl) rfl
    | _ => cases h
  | .lst l, X, C, K, e, h => by
    cases e with
    | List es pos =>
      obtain ⟨h1, h2⟩ := and2 (show (mL C l es && Nat.ble (lenL l) 10000) = true from h)
      exact .plain (sE_lst (mL_ok l K h1) h2) (fun _ => rfl) rfl
    | _ => cases h
  | .cell l, X, C, K, e, h => by
    cases e with
    | List es pos =>
      obtain ⟨h1, h2⟩ := and2 (show (mL C l es && Nat.ble (lenL l) 10000) = true from h)
      exact .plain (sE_cell (mL_ok l K h1) h2) (fun _ => rfl) rfl
    | _ => cases h
  | .ix a i, X, C, K, e, h => by
    cases e with
    | Subscript x y pos =>
      obtain ⟨h, h3⟩ := and2 (show (notSl y && mE C a x && mE C i y) = true from h)
      obtain ⟨h1, h2⟩ := and2 h
      exact .plain (sE_ix K.good (mE_ok a K h2).pe (mE_ok i K h3).pe (plainIx_of h1)) (fun _ => rfl) rfl
    | _ => cases h
  | .sl a lo hi, X, C, K, e, h => by
    cases e with
    | Subscript x y pos =>
      cases y with
      | Slice ol oh st p2 =>
        cases st with
        | none =>
          obtain ⟨h, h3⟩ := and2 (show (mE C a x && (match (generalizing := false) ol with | none => isNon lo | some y => !isNon lo && mE C lo y) && (match (generalizing := false) oh with | none => isNon hi | some y => !isNon hi && mE C hi y)) = true from h)
          obtain ⟨h1, h2⟩ := and2 h
          refine .plain (sE_sl (mE_ok a K h1).pe ?_ ?_) (fun _ => rfl) rfl
          · cases ol with
            | none => exact isNon_of h2
            | some y =>
              obtain ⟨h4, h5⟩ := and2 (show (!isNon lo && mE C lo y) = true from h2)
              exact ⟨(mE_ok lo K h5).pe, isNon_ne (notN h4)⟩
          · cases oh with
            | none => exact isNon_of h3
            | some y =>
              obtain ⟨h4, h5⟩ := and2 (show (!isNon hi && mE C hi y) = true from h3)
              exact ⟨(mE_ok hi K h5).pe, isNon_ne (notN h4)⟩
        | _ => cases h
      | _ => cases h
    | _ => cases h
  | .slrev a, X, C, K, e, h => by
    cases e with
    | Subscript x y pos =>
      match y, h with
      | .Slice none none (some (.UnaryOp .USub (.Constant (.int 1) k0 p1) p2)) p3, h => exact .plain (sE_slrev (mE_ok a K (e := x) h).pe) (fun _ => rfl) rfl
    | _ => cases h
  | .frz a, X, C, K, e, h => by
    cases e with
    | Name x pos => exact .plain (sE_frz (mE_ok a K (e := .Name x pos) h).pe) (fun _ => rfl) rfl
    | _ => cases h
  | .call f l, X, C, K, e, h => by
    cases e with
    | Call fe es kws pos =>
      cases fe with
      | Name x p =>
        cases kws with
        | nil =>
          obtain ⟨h, h5⟩ := and2 (show ((match C.names[f]? with | some (y, ps) => eqS x y && decide (lenL l = ps.length) | none => false) && glB C.sc x && notDbg x && plainXs es && mL C l es) = true from h)
          obtain ⟨h, h4⟩ := and2 h
          obtain ⟨h, h3⟩ := and2 h
          obtain ⟨h1, h2⟩ := and2 h
          cases q : C.names[f]? with
          | none => rw [q] at h1; cases h1
          | some yp =>
            obtain ⟨y, ps⟩ := yp
            rw [q] at h1
            obtain ⟨h6, h7⟩ := and2 (show (eqS x y && decide (lenL l = ps.length)) = true from h1)
            cases eqS_ok h6
            have h7 := of_decide_eq_true h7
            have F := K.good.fns f x ps (by rw [K.nms]; exact q)
            have pa := mL_ok l K h5
            cases es with
            | nil =>
              cases l with
              | nil =>
                have : ps = [] := List.eq_nil_of_length_eq_zero h7.symm
                subst this
                exact .plain (sE_call0 K.good F (K.gl h2) (notDbg_ok h3).1) (fun _ => rfl) rfl
              | cons _ _ => cases h5
            | cons e1 es =>
              obtain ⟨p1, p2⟩ := and2 (show (plainX e1 && plainXs es) = true from h4)
              exact .plain (sE_call K.good F (K.gl h2) pa h7 (notDbg_ok h3).1 (starEach_plain p1) (starEach_none p2)) (fun _ => rfl) rfl
        | cons _ _ => cases h
      | _ => cases h
    | _ => cases h
  | .callK f k a, X, C, K, e, h => by
    cases e with
    | Call fe es kws pos =>
      cases fe with
      | Name x p =>
        match es, kws, h with
        | [], [⟨some k1, v, p4⟩], h =>
          obtain ⟨h, h4⟩ := and2 (show ((match C.names[f]? with | some (y, [k2]) => eqS x y && eqS k1 k2 && eqS k k1 | _ => false) && glB C.sc x && notDbg x && mE C a v) = true from h)
          obtain ⟨h, h3⟩ := and2 h
          obtain ⟨h1, h2⟩ := and2 h
          cases q : C.names[f]? with
          | none => rw [q] at h1; cases h1
          | some yp =>
            obtain ⟨y, ps⟩ := yp
            rw [q] at h1
            match ps, q, h1 with
            | [k2], q, h1 =>
              obtain ⟨h1, h7⟩ := and2 (show (eqS x y && eqS k1 k2 && eqS k k1) = true from h1)
              obtain ⟨h5, h6⟩ := and2 h1
              cases eqS_ok h5
              cases eqS_ok h7
              cases eqS_ok h6
              have F := K.good.fns f x [k] (by rw [K.nms]; exact q)
              exact .plain (sE_callK K.good F (K.gl h2) (mE_ok a K h4).pe (notDbg_ok h3).1) (fun _ => rfl) rfl
      | _ => cases h
    | _ => cases h
  | .blt q l, X, C, K, e, h => by
    cases hn : nlB q with
    | true =>
      have h : (match (generalizing := false) nlB q with
        | true => (match (generalizing := false) e with
          | .Call (.Name x _) (e1 :: es) [] _ => eqS (bname q) x && glB C.sc x && plainXs (e1 :: es) && mL C l (e1 :: es)
          | _ => false)
        | false => (match (generalizing := false) e with
          | .Call (.Name x _) [.Call (.Name y _) [e1] [] _] [] _ => eqS x "len" && eqS y "set" && glB C.sc x && glB C.sc y && mL C l [e1]
          | _ => false)) = true := h
      rw [hn] at h
      cases e with
      | Call fe es kws pos =>
        cases fe with
        | Name x p =>
          match es, kws, h with
          | e1 :: es, [], h =>
            obtain ⟨h, h5⟩ := and2 (show (eqS (bname q) x && glB C.sc x && plainXs (e1 :: es) && mL C l (e1 :: es)) = true from h)
            obtain ⟨h, h4⟩ := and2 h
            obtain ⟨h1, h3⟩ := and2 h
            obtain ⟨p1, p2⟩ := and2 (show (plainX e1 && plainXs es) = true from h4)
            exact .plain (sE_blt K.good (eqS_ok h1) (fun z => by subst z; cases hn) (K.gl h3) (mL_ok l K h5) (starEach_plain p1) (starEach_none p2)) (fun _ => rfl) rfl
          | [], _, h => cases h
          | _ :: _, _ :: _, h => cases h
        | _ => cases h
      | _ => cases h
    | false =>
      have hq : q = .lenset := by cases q <;> first | rfl | exact Bool.noConfusion hn
      subst hq
      have h : (match (generalizing := false) e with
          | .Call (.Name x _) [.Call (.Name y _) [e1] [] _] [] _ => eqS x "len" && eqS y "set" && glB C.sc x && glB C.sc y && mL C l [e1]
          | _ => false) = true := h
      split at h
      · rename_i x p1 y p2 e1 p3 p4 _
        obtain ⟨h, h5⟩ := and2 h
        obtain ⟨h, h4⟩ := and2 h
        obtain ⟨h, h3⟩ := and2 h
        obtain ⟨h1, h2⟩ := and2 h
        cases eqS_ok h1
        cases eqS_ok h2
        match l, h5 with
        | .cons a .nil, h5 =>
          obtain ⟨h5, _⟩ := and2 (show (plainX e1 && mE C a e1 && mL C .nil []) = true from h5)
          obtain ⟨h6, h7⟩ := and2 h5
          exact .plain (sE_lenset K.good (K.gl h3) (K.gl h4) (mE_ok a K h7).pe (starEach_plain h6)) (fun _ => rfl) rfl
        | .nil, h5 => cases h5
        | .cons a (.cons b l), h5 =>
          obtain ⟨_, h6⟩ := and2 (show (plainX e1 && mE C a e1 && mL C (.cons b l) []) = true from h5)
          cases h6
      · cases h
  | .mth m o l, X, C, K, e, h => by
    cases e with
    | Call fe es kws pos =>
      cases fe with
      | Attribute x nm ap =>
        cases kws with
        | nil =>
          obtain ⟨h, h7⟩ := and2 (show (eqS nm (mname m) && mE C o x && notCall0 x && (ap.endLine == pos.line) && plainXs es && decide (es.length < 30) && mL C l es) = true from h)
          obtain ⟨h, h6⟩ := and2 h
          obtain ⟨h, h5⟩ := and2 h
          obtain ⟨h, h4⟩ := and2 h
          obtain ⟨h, h3⟩ := and2 h
          obtain ⟨h1, h2⟩ := and2 h
          cases eqS_ok h1
          have qo := (mE_ok o K h2).pe
          have pa := mL_ok l K h7
          cases es with
          | nil =>
            cases l with
            | nil => exact .plain (sE_mth0 K.good qo h3 h4) (fun _ => rfl) rfl
            | cons _ _ => cases h7
          | cons e1 es => exact .plain (sE_mth K.good qo pa h3 h4 h5 h6) (fun _ => rfl) rfl
        | cons _ _ => cases h
      | _ => cases h
    | _ => cases h
  | .lc elt tg it c own, X, C, K, e, h => by
    cases e with
    | ListComp x gs scope pos =>
      match gs, h with
      | [⟨tx, ix, ifs, 0⟩], h =>
        obtain ⟨h, h7⟩ := and2 (show (blkC C.N C.sc scope own && subB (slotsT tg) own && notSet ix && mI C it tx ix && mT { C with sc := relS scope C.sc, inFn := false } tg tx &&
          (match (generalizing := false) ifs with | [] => isTrueE c | [cx] => mE { C with sc := relS scope C.sc, inFn := false } c cx | _ => false) && mE { C with sc := relS scope C.sc, inFn := false } elt x) = true from h)
        obtain ⟨h, h6⟩ := and2 h
        obtain ⟨h, h5⟩ := and2 h
        obtain ⟨h, h4⟩ := and2 h
        obtain ⟨h, h3⟩ := and2 h
        obtain ⟨h1, h2⟩ := and2 h
        refine .plain (sE_lc K.good (mI_ok it K h4) (by rw [K.hN, K.hsc]; exact blkOk_by h1) (sub_ok h2) (fun s H Ca cl fp => mT_ok tg (K.blk s H scope cl Ca fp) h5) (fun s H Ca cl fp => ?_) (fun s H Ca cl fp => (mE_ok elt (K.blk s H scope cl Ca fp) h7).pe) (notSet_of h3)) (fun _ => rfl) rfl
        match ifs, h6 with
        | [], h6 =>
          have e : c = .bl true := isTrueE_of h6
          rw [e]
          exact sTs_nil
        | [cx], h6 => exact pts_one (mE_ok c (K.blk s H scope cl Ca fp) (e := cx) h6).pt
        | _ :: _ :: _, h6 => cases h6
    | _ => cases h
theorem mL_ok {P : Pg} : ∀ (l : L) {X : Cx} {C : MC} (K : MCk P X C) {es : List Expr}, mL C l es = true → PA X es (tL P X l)
  | .nil, X, C, K, es, h => by
    cases es with
    | nil => exact sL_nil
    | cons _ _ => cases h
  | .cons a l, X, C, K, es, h => by
    cases es with
    | nil => cases h
    | cons e r =>
      obtain ⟨h, h3⟩ := and2 (show (plainX e && mE C a e && mL C l r) = true from h)
      obtain ⟨h1, h2⟩ := and2 h
      exact sL_cons (mE_ok a K h2).pe (mL_ok l K h3) (starEach_plain h1)
theorem mI_ok {P : Pg} : ∀ (it : I) {X : Cx} {C : MC} (K : MCk P X C) {t e : Expr}, mI C it t e = true → PI X t e (tI P X it)
  | .val a, X, C, K, t, e, h => sI_val (mE_ok a K h).pe
  | .rng1 a, X, C, K, t, e, h => by
    cases e with
    | Call fe es kws pos =>
      cases fe with
      | Name x p =>
        match es, kws, h with
        | [y], [], h =>
          obtain ⟨h, h4⟩ := and2 (show (eqS x "range" && glB C.sc x && plainX y && mE C a y) = true from h)
          obtain ⟨h, h3⟩ := and2 h
          obtain ⟨h1, h2⟩ := and2 h
          cases eqS_ok h1
          exact sI_rng1 K.good (K.gl h2) (mE_ok a K h4).pe h3
      | _ => cases h
    | _ => cases h
  | .rng2 a b, X, C, K, t, e, h => by
    cases e with
    | Call fe es kws pos =>
      cases fe with
      | Name x p =>
        match es, kws, h with
        | [y, z], [], h =>
          obtain ⟨h, h6⟩ := and2 (show (eqS x "range" && glB C.sc x && plainX y && plainX z && mE C a y && mE C b z) = true from h)
          obtain ⟨h, h5⟩ := and2 h
          obtain ⟨h, h4⟩ := and2 h
          obtain ⟨h, h3⟩ := and2 h
          obtain ⟨h1, h2⟩ := and2 h
          cases eqS_ok h1
          exact sI_rng2 K.good (K.gl h2) (mE_ok a K h5).pe (mE_ok b K h6).pe h3 h4
      | _ => cases h
    | _ => cases h
  | .zip a b, X, C, K, t, e, h => by
    cases t with
    | Tuple ts tk tpos =>
      cases e with
      | Call fe es kws pos =>
        cases fe with
        | Name x p =>
          match es, kws, h with
          | [y, z], [], h =>
            obtain ⟨h, h6⟩ := and2 (show (eqS x "zip" && glB C.sc x && plainX y && plainX z && mE C a y && mE C b z) = true from h)
            obtain ⟨h, h5⟩ := and2 h
            obtain ⟨h, h4⟩ := and2 h
            obtain ⟨h, h3⟩ := and2 h
            obtain ⟨h1, h2⟩ := and2 h
            cases eqS_ok h1
            exact sI_zip K.good (K.gl h2) (mE_ok a K h5).pe (mE_ok b K h6).pe h3 h4
        | _ => cases h
      | _ => cases h
    | _ => cases h
  | .enum _, X, C, K, t, e, h => by cases h
theorem mT_ok {P : Pg} : ∀ (t : Tg) {X : Cx} {C : MC} (K : MCk P X C) {e : Expr}, mT C t e = true → PG X e (tG P X t)
  | .nm i, X, C, K, e, h => by
    cases e with
    | Name x pos =>
      obtain ⟨h1, h2⟩ := and2 (show (decide (C.N[i]? = some x) && tgB C x) = true from h)
      obtain ⟨q1, q2⟩ := K.tg h2
      exact sG_nm K.good.nd (by rw [K.hN]; exact of_decide_eq_true h1) q1 q2
    | _ => cases h
  | .tp l, X, C, K, e, h => by
    cases e with
    | Tuple es k0 pos =>
      obtain ⟨h, h3⟩ := and2 (show (plainXs es && decide (lenT l = es.length) && mTL C l es) = true from h)
      obtain ⟨h1, h2⟩ := and2 h
      exact sG_tp K.good (mTL_ok l K h3) h1 (of_decide_eq_true h2)
    | _ => cases h
  | .sub o i, X, C, K, e, h => by
    cases e with
    | Subscript x y pos =>
      obtain ⟨h, h3⟩ := and2 (show (notSl y && mE C o x && mE C i y) = true from h)
      obtain ⟨h1, h2⟩ := and2 h
      exact sG_sub (mE_ok o K h2).pe (mE_ok i K h3).pe h1
    | _ => cases h
theorem mTL_ok {P : Pg} : ∀ (l : TLs) {X : Cx} {C : MC} (K : MCk P X C) {es : List Expr}, mTL C l es = true → PGs X es (tGs P X l)
  | .nil, X, C, K, es, h => by
    cases es with
    | nil => exact sG_nil
    | cons _ _ => cases h
  | .cons t l, X, C, K, es, h => by
    cases es with
    | nil => cases h
    | cons e r =>
      obtain ⟨h, h3⟩ := and2 (show (plainX e && mT C t e && mTL C l r) = true from h)
      obtain ⟨h1, h2⟩ := and2 h
      exact sG_cons (mT_ok t K h2) (mTL_ok l K h3) h1
end
end
end Sh
/-! Sh13: the matcher of statements. -/
set_option linter.all false
set_option autoImplicit false
set_option maxRecDepth 100000
set_option maxHeartbeats 1000000
namespace Sh
open PySem PySem.Spec PyProof.Rows L2
def notComp : Expr → Bool
  | .ListComp _ _ _ _ => false | .SetComp _ _ _ _ => false | .DictComp _ _ _ _ _ => false
  | _ => true
def notTupT : Expr → Bool
  | .Tuple _ _ _ => false | .List _ _ => false
  | _ => true
def notTupE : Expr → Bool
  | .Tuple _ _ _ => false
  | _ => true
theorem swaps_false {e : Expr} {t : Option Expr} {line : Nat} {env : Env} (h : notComp e = true) : swapsWith e t line env = pure false := by
  cases e <;> first | rfl | exact Bool.noConfusion h
theorem swp_none {t e : Expr} {env : Env} (h : (notTupT t || notTupE e) = true) : swappedStores [t] e env = pure none := by
  cases t <;> first | rfl | (cases e <;> first | rfl | exact Bool.noConfusion h)
def swB (sc scope : Scope) (y : Str) (py lpos : Pos) : Bool := ((if sc.kind.isAnnotationScope then .function else sc.kind) == .function && sc.names.lookup y == some .local && py.line == lpos.line && !(scope.names.any fun (n, k) => n == y && (k == .local || k == .cell)))
theorem sw_comp {x : Expr} {gs : List Comprehension} {scope : Scope} {lpos py : Pos} {y : Str} {line : Nat} {env : Env} : swapsWith (.ListComp x gs scope lpos) (some (.Name y py)) line env = pure (swB env.scope scope y py lpos) := rfl
def kindFn (sc : Scope) : Bool := match sc.kind with | .function => true | _ => false
theorem kindFn_ok {sc : Scope} (h : kindFn sc = true) : sc.kind = .function := by
  unfold kindFn at h
  split at h
  · assumption
  · cases h
def locB (sc : Scope) (x : Str) : Bool := match sc.names.lookup x with | some .local => true | _ => false
theorem locB_ok {sc : Scope} {x : Str} (h : locB sc x = true) : sc.names.lookup x = some .local := by
  unfold locB at h
  split at h
  · assumption
  · cases h
def neS (x y : Str) : Bool := decide (x ≠ y)
theorem swp2 {x y : Str} {px py pt pt2 : Pos} {kt k2 : Nat} {e1 e2 : Expr} {env : Env} (hk : env.scope.kind = .function) (hx : env.scope.names.lookup x = some .local) (hy : env.scope.names.lookup y = some .local) (hl : (py.line == px.line) = true) (hxy : x ≠ y)
    (p1 : plainX e1 = true) (p2 : plainX e2 = true) (hf : (foldedForSure 8 e1 && foldedForSure 8 e2) = false) (hc : (constantsAlone 8 e1 && constantsAlone 8 e2) = false) :
    swappedStores [.Tuple [.Name x px, .Name y py] kt pt] (.Tuple [e1, e2] k2 pt2) env = pure (some [x, y]) := by
  have hb : env.blockKind = .function := by unfold Env.blockKind; rw [hk]; rfl
  have hx' : env.kindOf x = some .local := hx
  have hy' : env.kindOf y = some .local := hy
  have hl' : py.line = px.line := by simpa using hl
  unfold swappedStores
  have er : ([x, y] : List Str).eraseDups.length = 2 := by
    simp [List.eraseDups_cons, Ne.symm hxy]
  simp [hb, hx', hy', hf, hc, hl', Expr.pos, er]
  intro hh
  rcases hh with hh | hh
  · exact absurd hh (by cases e1 <;> first | exact Bool.false_ne_true | exact Bool.noConfusion p1)
  · exact absurd hh (by cases e2 <;> first | exact Bool.false_ne_true | exact Bool.noConfusion p2)
theorem swp3 {x y z : Str} {px py pz pt pt2 : Pos} {kt k2 : Nat} {e1 e2 e3 : Expr} {env : Env} (hk : env.scope.kind = .function) (hx : env.scope.names.lookup x = some .local) (hy : env.scope.names.lookup y = some .local) (hz : env.scope.names.lookup z = some .local)
    (hl : (py.line == px.line) = true) (hl2 : (pz.line == px.line) = true) (hxy : x ≠ y) (hxz : x ≠ z) (hyz : y ≠ z)
    (p1 : plainX e1 = true) (p2 : plainX e2 = true) (p3 : plainX e3 = true) (hf : (foldedForSure 8 e1 && (foldedForSure 8 e2 && foldedForSure 8 e3)) = false) (hc : (constantsAlone 8 e1 && (constantsAlone 8 e2 && constantsAlone 8 e3)) = false) :
    swappedStores [.Tuple [.Name x px, .Name y py, .Name z pz] kt pt] (.Tuple [e1, e2, e3] k2 pt2) env = pure (some [x, y, z]) := by
  have hb : env.blockKind = .function := by unfold Env.blockKind; rw [hk]; rfl
  have hx' : env.kindOf x = some .local := hx
  have hy' : env.kindOf y = some .local := hy
  have hz' : env.kindOf z = some .local := hz
  have hl' : py.line = px.line := by simpa using hl
  have hl2' : pz.line = px.line := by simpa using hl2
  unfold swappedStores
  have er : ([x, y, z] : List Str).eraseDups.length = 3 := by
    simp [List.eraseDups_cons, Ne.symm hxy, Ne.symm hxz, Ne.symm hyz]
  simp [hb, hx', hy', hz', hf, hc, hl', hl2', Expr.pos, er]
  intro hh
  rcases hh with hh | hh | hh
  · exact absurd hh (by cases e1 <;> first | exact Bool.false_ne_true | exact Bool.noConfusion p1)
  · exact absurd hh (by cases e2 <;> first | exact Bool.false_ne_true | exact Bool.noConfusion p2)
  · exact absurd hh (by cases e3 <;> first | exact Bool.false_ne_true | exact Bool.noConfusion p3)
mutual
def mS (C : MC) : ST → Stmt → Bool
  | .asg t e => fun st => match st with
    | .Assign [tx] ex _ => plainX tx && mT C t tx && mE C e ex && (match notComp ex with
      | true => notTupT tx || notTupE ex
      | false => match tx, ex, t, e with
        | .Name y py, .ListComp _ [_] scope lpos, .nm _, .lc _ _ _ _ _ => C.inFn && locB C.sc y && swB C.sc scope y py lpos
        | _, _, _, _ => false)
    | _ => false
  | .par2 i j a b => fun st => match st with
    | .Assign [.Tuple [.Name x px, .Name y py] _ _] (.Tuple [e1, e2] _ _) _ => decide (C.N[i]? = some x) && decide (C.N[j]? = some y) && decide (i ≠ j) && kindFn C.sc && locB C.sc x && locB C.sc y && (py.line == px.line) && neS x y &&
        plainX e1 && plainX e2 && !(foldedForSure 8 e1 && foldedForSure 8 e2) && !(constantsAlone 8 e1 && constantsAlone 8 e2) && mE C a e1 && mE C b e2
    | _ => false
  | .par3 i j k a b c => fun st => match st with
    | .Assign [.Tuple [.Name x px, .Name y py, .Name z pz] _ _] (.Tuple [e1, e2, e3] _ _) _ => (decide (C.N[i]? = some x) && decide (C.N[j]? = some y) && decide (C.N[k]? = some z) && decide (i ≠ j) && decide (i ≠ k) && decide (j ≠ k)) &&
        (kindFn C.sc && locB C.sc x && locB C.sc y && locB C.sc z && (py.line == px.line) && (pz.line == px.line) && neS x y && neS x z && neS y z) &&
        (plainX e1 && plainX e2 && plainX e3 && !(foldedForSure 8 e1 && (foldedForSure 8 e2 && foldedForSure 8 e3)) && !(constantsAlone 8 e1 && (constantsAlone 8 e2 && constantsAlone 8 e3))) && mE C a e1 && mE C b e2 && mE C c e3
    | _ => false
  | .expr e => fun st => match st with | .Expr ex _ => notComp ex && mE C e ex | _ => false
  | .ret e => fun st => match st with | .Return (some ex) _ => mE C e ex | _ => false
  | .retN => fun st => match st with | .Return none _ => true | _ => false
  | .ifs c a b => fun st => match st with | .If cx xs ys _ => mE C c cx && mB C a xs && mB C b ys | _ => false
  | .for t it b => fun st => match st with | .For tx ix xs [] _ => notSet ix && mI C it tx ix && mT C t tx && mB C b xs | _ => false
  | .whl c b => fun st => match st with | .While cx xs [] _ => mE C c cx && mB C b xs | _ => false
  | .brk => fun st => match st with | .Break _ => true | _ => false
  | .cnt => fun st => match st with | .Continue _ => true | _ => false
  | .pas => fun st => match st with | .Pass _ => true | _ => false
def mB (C : MC) : BL → List Stmt → Bool
  | .nil => fun xs => match xs with | [] => true | _ => false
  | .cons t b => fun xs => match xs with | x :: r => mS C t x && mB C b r | _ => false
end
theorem neS_ok {x y : Str} (h : neS x y = true) : x ≠ y := of_decide_eq_true h
set_option maxHeartbeats 4000000 in
mutual
theorem mS_ok {P : Pg} {X : Cx} {C : MC} (K : MCk P X C) (hp : PassesOwn (model X.prog X.w) X.A X.env X.xe) : ∀ (t : ST) {st : Stmt}, mS C t st = true → PS X st (tS P X t)
  | .asg t e, st, h => by
    cases st with
    | Assign txs ex pos =>
      match txs, h with
      | [tx], h =>
        obtain ⟨h, h4⟩ := and2 (show (plainX tx && mT C t tx && mE C e ex && (match (generalizing := false) notComp ex with
          | true => notTupT tx || notTupE ex
          | false => match (generalizing := false) tx, ex, t, e with
            | .Name y py, .ListComp _ [_] scope lpos, .nm _, .lc _ _ _ _ _ => C.inFn && locB C.sc y && swB C.sc scope y py lpos
            | _, _, _, _ => false)) = true from h)
        obtain ⟨h, h3⟩ := and2 h
        obtain ⟨h1, h2⟩ := and2 h
        cases hn : notComp ex with
        | true =>
          rw [hn] at h4
          exact sS_asg (mE_ok e K h3).pe (mT_ok t K h2) (swaps_false hn) (swp_none h4) h1
        | false =>
          rw [hn] at h4
          have h4 : (match (generalizing := false) tx, ex, t, e with
            | .Name y py, .ListComp _ [_] scope lpos, .nm _, .lc _ _ _ _ _ => C.inFn && locB C.sc y && swB C.sc scope y py lpos
            | _, _, _, _ => false) = true := h4
          split at h4
          · rename_i y py xx gg scope lpos i elt tg it c own _ _ _ _
            obtain ⟨h4, h7⟩ := and2 h4
            obtain ⟨h5, h6⟩ := and2 h4
            obtain ⟨tx, ix, ifs, as_⟩ := gg
            cases as_ with
            | negSucc n => cases h3
            | ofNat n =>
              cases n with
              | succ n => cases h3
              | zero =>
                obtain ⟨h3, g7⟩ := and2 (show (blkC C.N C.sc scope own && subB (slotsT tg) own && notSet ix && mI C it tx ix && mT { C with sc := relS scope C.sc, inFn := false } tg tx &&
                  (match (generalizing := false) ifs with | [] => isTrueE c | [cx] => mE { C with sc := relS scope C.sc, inFn := false } c cx | _ => false) && mE { C with sc := relS scope C.sc, inFn := false } elt xx) = true from h3)
                obtain ⟨h3, g6⟩ := and2 h3
                obtain ⟨h3, g5⟩ := and2 h3
                obtain ⟨h3, g4⟩ := and2 h3
                obtain ⟨h3, g3⟩ := and2 h3
                obtain ⟨g1, g2⟩ := and2 h3
                obtain ⟨k1, k2⟩ := and2 (show (decide (C.N[i]? = some y) && tgB C y) = true from h2)
                refine sS_setLc K.good (by rw [K.hN]; exact of_decide_eq_true k1) (by rw [K.hsc]; exact locB_ok h6) (by rw [sw_comp, K.hsc, h7]) (mI_ok it K g4) (by rw [K.hN, K.hsc]; exact blkOk_by g1) (sub_ok g2)
                  (fun s H Ca cl fp => mT_ok tg (K.blk s H scope cl Ca fp) g5) (fun s H Ca cl fp => ?_) (fun s H Ca cl fp => (mE_ok elt (K.blk s H scope cl Ca fp) g7).pe) (notSet_of g3)
                match ifs, g6 with
                | [], g6 =>
                  have e : c = .bl true := isTrueE_of g6
                  rw [e]
                  exact sTs_nil
                | [cx], g6 => exact pts_one (mE_ok c (K.blk s H scope cl Ca fp) (e := cx) g6).pt
                | _ :: _ :: _, g6 => cases g6
          · cases h4
      | [], h => cases h
      | _ :: _ :: _, h => cases h
    | _ => cases h
  | .par2 i j a b, st, h => by
    cases st with
    | Assign txs ex pos =>
      match txs, ex, h with
      | [.Tuple [.Name x px, .Name y py] kt pt], .Tuple [e1, e2] k2 pt2, h =>
        obtain ⟨h, g14⟩ := and2 (show (decide (C.N[i]? = some x) && decide (C.N[j]? = some y) && decide (i ≠ j) && kindFn C.sc && locB C.sc x && locB C.sc y && (py.line == px.line) && neS x y &&
          plainX e1 && plainX e2 && !(foldedForSure 8 e1 && foldedForSure 8 e2) && !(constantsAlone 8 e1 && constantsAlone 8 e2) && mE C a e1 && mE C b e2) = true from h)
        obtain ⟨h, g13⟩ := and2 h
        obtain ⟨h, g12⟩ := and2 h
        obtain ⟨h, g11⟩ := and2 h
        obtain ⟨h, g10⟩ := and2 h
        obtain ⟨h, g9⟩ := and2 h
        obtain ⟨h, g8⟩ := and2 h
        obtain ⟨h, g7⟩ := and2 h
        obtain ⟨h, g6⟩ := and2 h
        obtain ⟨h, g5⟩ := and2 h
        obtain ⟨h, g4⟩ := and2 h
        obtain ⟨h, g3⟩ := and2 h
        obtain ⟨g1, g2⟩ := and2 h
        have hx : X.env.scope.names.lookup x = some .local := by rw [K.hsc]; exact locB_ok g5
        have hy : X.env.scope.names.lookup y = some .local := by rw [K.hsc]; exact locB_ok g6
        exact sS_par2 K.good (by rw [K.hN]; exact of_decide_eq_true g1) (by rw [K.hN]; exact of_decide_eq_true g2) (of_decide_eq_true g3) hx hy (mE_ok a K g13).pe (mE_ok b K g14).pe g9 g10
          (swp2 (by rw [K.hsc]; exact kindFn_ok g4) hx hy g7 (neS_ok g8) g9 g10 (notN g11) (notN g12))
    | _ => cases h
  | .par3 i j k a b c, st, h => by
    cases st with
    | Assign txs ex pos =>
      match txs, ex, h with
      | [.Tuple [.Name x px, .Name y py, .Name z pz] kt pt], .Tuple [e1, e2, e3] k2 pt2, h =>
        obtain ⟨h, m3⟩ := and2 (show ((decide (C.N[i]? = some x) && decide (C.N[j]? = some y) && decide (C.N[k]? = some z) && decide (i ≠ j) && decide (i ≠ k) && decide (j ≠ k)) &&
          (kindFn C.sc && locB C.sc x && locB C.sc y && locB C.sc z && (py.line == px.line) && (pz.line == px.line) && neS x y && neS x z && neS y z) &&
          (plainX e1 && plainX e2 && plainX e3 && !(foldedForSure 8 e1 && (foldedForSure 8 e2 && foldedForSure 8 e3)) && !(constantsAlone 8 e1 && (constantsAlone 8 e2 && constantsAlone 8 e3))) && mE C a e1 && mE C b e2 && mE C c e3) = true from h)
        obtain ⟨h, m2⟩ := and2 h
        obtain ⟨h, m1⟩ := and2 h
        obtain ⟨h, f⟩ := and2 h
        obtain ⟨h, g⟩ := and2 h
        obtain ⟨h, n6⟩ := and2 h
        obtain ⟨h, n5⟩ := and2 h
        obtain ⟨h, n4⟩ := and2 h
        obtain ⟨h, n3⟩ := and2 h
        obtain ⟨n1, n2⟩ := and2 h
        obtain ⟨g, g9⟩ := and2 g
        obtain ⟨g, g8⟩ := and2 g
        obtain ⟨g, g7⟩ := and2 g
        obtain ⟨g, g6⟩ := and2 g
        obtain ⟨g, g5⟩ := and2 g
        obtain ⟨g, g4⟩ := and2 g
        obtain ⟨g, g3⟩ := and2 g
        obtain ⟨g1, g2⟩ := and2 g
        obtain ⟨f, f5⟩ := and2 f
        obtain ⟨f, f4⟩ := and2 f
        obtain ⟨f, f3⟩ := and2 f
        obtain ⟨f1, f2⟩ := and2 f
        have hx : X.env.scope.names.lookup x = some .local := by rw [K.hsc]; exact locB_ok g2
        have hy : X.env.scope.names.lookup y = some .local := by rw [K.hsc]; exact locB_ok g3
        have hz : X.env.scope.names.lookup z = some .local := by rw [K.hsc]; exact locB_ok g4
        exact sS_par3 K.good (by rw [K.hN]; exact of_decide_eq_true n1) (by rw [K.hN]; exact of_decide_eq_true n2) (by rw [K.hN]; exact of_decide_eq_true n3) (of_decide_eq_true n4) (of_decide_eq_true n5) (of_decide_eq_true n6) hx hy hz
          (mE_ok a K m1).pe (mE_ok b K m2).pe (mE_ok c K m3).pe f1 f2 f3
          (swp3 (by rw [K.hsc]; exact kindFn_ok g1) hx hy hz g5 g6 (neS_ok g7) (neS_ok g8) (neS_ok g9) f1 f2 f3 (notN f4) (notN f5))
    | _ => cases h
  | .expr e, st, h => by
    cases st with
    | Expr ex pos =>
      obtain ⟨h1, h2⟩ := and2 (show (notComp ex && mE C e ex) = true from h)
      exact sS_expr (mE_ok e K h2).pe (swaps_false h1)
    | _ => cases h
  | .ret e, st, h => by
    cases st with
    | Return o pos =>
      cases o with
      | none => cases h
      | some ex => exact sS_ret (mE_ok e K (e := ex) h).pe
    | _ => cases h
  | .retN, st, h => by
    cases st with
    | Return o pos =>
      cases o with
      | none => exact sS_retN
      | some ex => cases h
    | _ => cases h
  | .ifs c a b, st, h => by
    cases st with
    | If cx xs ys pos =>
      obtain ⟨h, h3⟩ := and2 (show (mE C c cx && mB C a xs && mB C b ys) = true from h)
      obtain ⟨h1, h2⟩ := and2 h
      exact sS_ifs (mE_ok c K h1).pt (mB_ok K hp a h2) (mB_ok K hp b h3)
    | _ => cases h
  | .for t it b, st, h => by
    cases st with
    | For tx ix xs ys pos =>
      cases ys with
      | nil =>
        obtain ⟨h, h4⟩ := and2 (show (notSet ix && mI C it tx ix && mT C t tx && mB C b xs) = true from h)
        obtain ⟨h, h3⟩ := and2 h
        obtain ⟨h1, h2⟩ := and2 h
        exact sS_for K.good hp (mI_ok it K h2) (mT_ok t K h3) (mB_ok K hp b h4) (notSet_of h1)
      | cons _ _ => cases h
    | _ => cases h
  | .whl c b, st, h => by
    cases st with
    | While cx xs ys pos =>
      cases ys with
      | nil =>
        obtain ⟨h1, h2⟩ := and2 (show (mE C c cx && mB C b xs) = true from h)
        exact sS_whl hp (mE_ok c K h1).pt (mB_ok K hp b h2)
      | cons _ _ => cases h
    | _ => cases h
  | .brk, st, h => by
    cases st with
    | Break pos => exact sS_brk
    | _ => cases h
  | .cnt, st, h => by
    cases st with
    | Continue pos => exact sS_cnt
    | _ => cases h
  | .pas, st, h => by
    cases st with
    | Pass pos => exact sS_pas
    | _ => cases h
theorem mB_ok {P : Pg} {X : Cx} {C : MC} (K : MCk P X C) (hp : PassesOwn (model X.prog X.w) X.A X.env X.xe) : ∀ (b : BL) {xs : List Stmt}, mB C b xs = true → PSs X xs (tB P X b)
  | .nil, xs, h => by
    cases xs with
    | nil => exact sB_nil
    | cons _ _ => cases h
  | .cons t b, xs, h => by
    cases xs with
    | nil => cases h
    | cons x r =>
      obtain ⟨h1, h2⟩ := and2 (show (mS C t x && mB C b r) = true from h)
      exact sB_cons (mS_ok K hp t h1) (mB_ok K hp b h2)
end
end Sh
/-! Sh14: defs: the promise of every def by its depth. -/
set_option linter.all false
set_option autoImplicit false
set_option maxRecDepth 100000
set_option maxHeartbeats 1000000
namespace Sh
open PySem PySem.Spec PyProof.Rows L2
/-- plain parameters -/
def plainPs (p : Arguments) (ps : List Str) : Bool := p.posonlyargs.isEmpty && decide (p.args.map (·.arg) = ps) && p.vararg.isNone && p.kwonlyargs.isEmpty && p.kwarg.isNone && decide ps.Nodup
theorem zip_lookup {ps : List Str} : ∀ {us : List Value} {n : Str}, n ∈ ps → us.length = ps.length → ((ps.zip us).lookup n).isSome = true := by
  induction ps with
  | nil => intro us n h; cases h
  | cons p r ih =>
    intro us n h hl
    cases us with
    | nil => cases hl
    | cons u us =>
      rw [List.zip_cons_cons, List.lookup_cons]
      split
      · rfl
      · rename_i hn
        have hn : ¬ n = p := by simpa using hn
        exact ih ((List.mem_cons.mp h).resolve_left hn) (Nat.succ.inj hl)
theorem zip_back {ps : List Str} : ∀ {us : List Value} (pre : List (Str × Value)), (∀ n ∈ ps, pre.lookup n = none) → ps.Nodup → us.length = ps.length → ps.filterMap (fun n => ((pre ++ ps.zip us).lookup n).map (n, ·)) = ps.zip us := by
  induction ps with
  | nil => intro us pre _ _ hl; rfl
  | cons p r ih =>
    intro us pre hp nd hl
    cases us with
    | nil => cases hl
    | cons u us =>
      have nd' := List.nodup_cons.mp nd
      rw [List.zip_cons_cons, List.filterMap_cons]
      have e1 : (pre ++ (p, u) :: r.zip us).lookup p = some u := by
        rw [List.lookup_append, hp p List.mem_cons_self]
        simp [List.lookup_cons]
      rw [e1]
      show (p, u) :: _ = _
      congr 1
      have e2 : pre ++ (p, u) :: r.zip us = (pre ++ [(p, u)]) ++ r.zip us := by simp
      rw [e2]
      refine ih (pre ++ [(p, u)]) (fun n hn => ?_) nd'.2 (Nat.succ.inj hl)
      rw [List.lookup_append, hp n (List.mem_cons_of_mem _ hn)]
      have : (n == p) = false := beq_eq_false_iff_ne.mpr fun e => nd'.1 (by rw [← e]; exact hn)
      simp [List.lookup_cons, this]
theorem bind_plain {x qual : Str} {params : Arguments} {body : List Stmt} {scope : Scope} {kV doc pm : Value} {an : Option Addr} {cdv ct : Value} {ps : List Str} (h : plainPs params ps = true) (us : List Value) (hl : us.length = ps.length) :
    bindArgs (PySem.W.fnOf x qual params body scope .none kV doc pm an cdv ct) ⟨us, []⟩ = pure (ps.zip us) := by
  obtain ⟨posonly, args, vararg, kwonly, kwd, kwarg, dfl⟩ := params
  unfold plainPs at h
  simp only [Bool.and_eq_true, List.isEmpty_iff, decide_eq_true_eq, Option.isNone_iff_eq_none] at h
  obtain ⟨⟨⟨⟨⟨h1, h2⟩, h3⟩, h4⟩, h5⟩, h6⟩ := h
  subst h1 h3 h4 h5
  have hm : (ps.filter fun n => ((ps.zip us).lookup n).isNone) = [] := by
    rw [List.filter_eq_nil_iff]
    intro n hn
    have := zip_lookup hn hl
    rw [Option.isNone_iff_eq_none]
    intro e
    rw [e] at this; cases this
  have hb := zip_back (us := us) [] (fun _ _ => rfl) h6 hl
  have hng : ¬ ps.length < us.length := by omega
  have es : seqItems? Value.none = pure none := rfl
  have e1 : decide (us.length > ps.length) = false := decide_eq_false (by omega)
  rw [List.nil_append] at hb
  unfold bindArgs
  simp only [PySem.W.fnOf, List.map_nil, List.nil_append, h2, List.append_nil, List.forIn_nil, pure_bind, es, Option.getD_none, e1, Bool.false_and, Bool.false_eq_true, if_false, List.length_nil, Nat.sub_zero, List.drop_nil, Nat.zero_sub, List.take_length, hm, List.isEmpty_nil, Bool.not_true, List.zip_nil_right, List.drop_length, hb]
theorem bind_kw {x qual : Str} {params : Arguments} {body : List Stmt} {scope : Scope} {kV doc pm : Value} {an : Option Addr} {cdv ct : Value} {k : Str} (h : plainPs params [k] = true) (w : Value) :
    bindArgs (PySem.W.fnOf x qual params body scope .none kV doc pm an cdv ct) ⟨[], [(k, w)]⟩ = pure [(k, w)] := by
  obtain ⟨posonly, args, vararg, kwonly, kwd, kwarg, dfl⟩ := params
  unfold plainPs at h
  simp only [Bool.and_eq_true, List.isEmpty_iff, decide_eq_true_eq, Option.isNone_iff_eq_none] at h
  obtain ⟨⟨⟨⟨⟨h1, h2⟩, h3⟩, h4⟩, h5⟩, h6⟩ := h
  subst h1 h3 h4 h5
  have es : seqItems? Value.none = pure none := rfl
  unfold bindArgs
  simp [PySem.W.fnOf, h2, es, List.lookup_cons]

def pgOf (R : Pr) (d : Nat) : Pg := ⟨R.names, R.dics, R.cst, callF R d, R.fuel⟩
/-- what is looked at of a def -/
def defB (R : Pr) (F : Fn) (ps N : List Str) (d : He.DefD) : Bool :=
  mB ⟨N, d.scope, true, R.names⟩ F.body d.body && decide (F.np = ps.length) && decide (F.nl = N.length) && C8.scC N ps d.scope && plainPs d.params ps && F.dfl.isEmpty
structure Gd (P : Program) (w : World) (K : PySem.W.Frag) (mg : Str → Option Value) (base : Heap) (R : Pr) : Prop where
  free : ∀ x ∈ bltNames, mg x = none
  gcd : mg "gcd" = some (.builtin "math.gcd")
  cst : ∀ x v, R.cst x = some v → ∃ u v', mg x = some u ∧ RelV v' u ∧ ∀ g H, RL K mg g H v v'
  dic : ∀ x t, R.dics x = some t → ∃ (a : Addr) (es : Array DictEntry) (n : Nat), mg x = some (.ref a) ∧ KDict K w a es n ∧ ∀ z : Str, (t.lookup z = none ∧ PySem.W.nsIn K a z = some none) ∨
    ∃ d u v, t.lookup z = some d ∧ PySem.W.nsIn K a z = some (some u) ∧ RelV v u ∧ ∀ Z H, DZ K Z H v d
  fns : ∀ (f : Nat) (x : Str) (ps : List Str), R.names[f]? = some (x, ps) → ∃ (F : Fn) (N : List Str) (d : He.DefD) (fa : Addr) (fd : FuncData), R.fns[f]? = some F ∧ defB R F ps N d = true ∧ mg x = some (.ref fa) ∧ FunD K d.name d.qual d.params d.body d.scope [] [] fa fd
section
variable {P : Program} {w : World} {K : PySem.W.Frag} {mg : Str → Option Value} {base : Heap} {R : Pr}
theorem funD_dflt {x qual : Str} {params : Arguments} {body : List Stmt} {scope : Scope} {kws : List (Str × V)} {f : Addr} {fd : FuncData} (D : FunD K x qual params body scope [] kws f fd) :
    ∃ (kV doc pm : Value) (an : Option Addr) (cdv ct : Value), fd = PySem.W.fnOf x qual params body scope .none kV doc pm an cdv ct := by
  obtain ⟨oc, od, dV, kV, doc, pm, an, cdv, ct, osl, rfl, lk, hcd, hD, hK⟩ := D.ex
  rcases hD with ⟨_, rfl⟩ | ⟨e, _⟩
  · exact ⟨kV, doc, pm, an, cdv, ct, rfl⟩
  · exact absurd rfl e
theorem binds_of {x qual : Str} {params : Arguments} {body : List Stmt} {scope : Scope} {kws : List (Str × V)} {f : Addr} {fd : FuncData} {ps : List Str} (D : FunD K x qual params body scope [] kws f fd) (h : plainPs params ps = true) : Binds K fd ps [] := by
  obtain ⟨kV, doc, pm, an, cdv, ct, rfl⟩ := funD_dflt D
  exact .all fun us hl => bind_plain h us hl
theorem kbinds_of {x qual : Str} {params : Arguments} {body : List Stmt} {scope : Scope} {kws : List (Str × V)} {f : Addr} {fd : FuncData} {k0 : Str} (D : FunD K x qual params body scope [] kws f fd) (h : plainPs params [k0] = true) :
    KBinds K fd [k0] [k0] (fun us ws => us ++ ws) (fun vs zs => vs ++ zs) := by
  obtain ⟨kV, doc, pm, an, cdv, ct, rfl⟩ := funD_dflt D
  refine ⟨fun s us ws _ hl => .of_eq ?_, fun r r' => r.append r'⟩
  have hl : us.length + ws.length = 1 := by
    have : (us ++ ws).length = 1 := hl
    rwa [List.length_append] at this
  match us, ws, hl with
  | [], [w], _ => exact bind_kw h w
  | [u], [], _ => exact bind_plain h [u] rfl
  | _ :: _ :: _, _, hl => simp at hl; omega
  | [_], _ :: _, hl => simp at hl
  | [], _ :: _ :: _, hl => simp at hl
/-- nothing of the caller's store is known to a pure def -/
theorem rls_pure {g : Gh} {H : Hp} {vs : List Vl} {us : List V} (h : RLs K mg g H vs us) : vs.all noRef = true → RLs K mg ⟨g.Z, []⟩ H vs us := by
  induction h with
  | nil => exact fun _ => .nil
  | @cons x xs v vs h hs ih =>
    intro hn
    obtain ⟨h1, h2⟩ := and2 (show (noRef x && xs.all noRef) = true from hn)
    refine .cons ?_ (ih h2)
    cases h with
    | p h => exact .p h
    | ref h => cases h1
    | dic h => exact .dic h
    | ty n => exact .ty n
    | scr h => exact .scr h
theorem cs_pure {g : Gh} {H : Hp} {s : Cells} (c : CS K mg g s H) : CS K mg ⟨g.Z, []⟩ [] H where
  len := rfl
  at_ := fun n o a e _ => by simp at e
  nd := List.nodup_nil
  zr := fun n xs a e _ => by simp at e
  zt := c.zt
  rt := fun a h => by cases h
theorem mo_back {g g' : Gh} {H H' : Hp} (m : Mo ⟨g.Z, []⟩ H g' H') : Mo g H ⟨g'.Z, g.rho⟩ H' where
  fz := m.fz
  fo := fun a o h _ => m.fo a o h (fun q => by cases q)
  fd := m.fd
  ft := m.ft
  fn := fun a z => by
    rcases m.fn a z with q | q | q
    · exact .inl q
    · exact .inr (.inl q)
    · cases q
  fr := fun _ _ h => h
  fm := fun _ h => .inl h
  fh := m.fh
theorem cs_back {g g' : Gh} {H H' : Hp} {s s' : Cells} (c : CS K mg g s H) (m : Mo ⟨g.Z, []⟩ H g' H') (c' : CS K mg g' s' H') : CS K mg ⟨g'.Z, g.rho⟩ s H' where
  len := c.len
  at_ := fun n o a e1 e2 => (c.at_ n o a e1 e2).mo (mo_back m) fun vs _ h => m.fo a _ h (fun q => by cases q)
  nd := c.nd
  zr := fun n xs a e1 e2 z => by
    rcases m.fn a z with q | q | q
    · exact c.zr n xs a e1 e2 q
    · exact c.rt a (List.mem_of_getElem? e2) q
    · cases q
  zt := c'.zt
  rt := fun a h hn => m.fh a (c.rt a h) hn
theorem rl_data {g : Gh} {rho : List Addr} {H : Hp} {d : PyData} {v : V} (r : RL K mg g H (.p d) v) : RL K mg ⟨g.Z, rho⟩ H (.p d) v := .p r.dz
/-- the slots at a def's entry -/
theorem sr_start {g : Gh} {H : Hp} {N : List Str} {vs : List Vl} {us : List V} (r : RLs K mg g H vs us) : SR K mg g H (vs.map some ++ List.replicate (N.length - vs.length) none) (L2.start N us) := by
  unfold L2.start
  have hl := r.length
  refine ⟨by simp [hl], fun i v e => ?_⟩
  by_cases hi : i < vs.length
  · rw [List.getElem?_append_left (by simpa using hi), List.getElem?_map] at e
    obtain ⟨x, e1, e2⟩ := mapf e
    cases e2
    obtain ⟨u, e3, r3⟩ := r.get e1
    refine ⟨u, ?_, r3⟩
    rw [List.getElem?_append_left (by rw [List.length_map, ← hl]; exact hi), List.getElem?_map, e3]
    rfl
  · rw [List.getElem?_append_right (by simpa using hi)] at e
    rw [List.getElem?_replicate] at e
    split at e <;> cases e
theorem fnEnd_ok {o : O Out} {r : Vl} {s : Cells} (h : fnEnd o = .ok r s) : (∃ sl, o = .ok (.nx sl) s ∧ r = .p .none) ∨ o = .ok (.rt r) s := by
  cases o with
  | bad => cases h
  | ok x s1 =>
    cases x with
    | nx sl => obtain ⟨rfl, rfl⟩ := ok_inj (show O.ok (Vl.p .none) s1 = O.ok r s from h); exact .inl ⟨sl, rfl, rfl⟩
    | rt v => obtain ⟨rfl, rfl⟩ := ok_inj (show O.ok v s1 = O.ok r s from h); exact .inr rfl
    | bk sl => cases h
    | ct sl => cases h
/-- behind a def's body -/
theorem end_of {g : Gh} {H : Hp} {s' : Cells} {o : Out} {r : Vl} {Q : VK} (h : fnEnd (.ok o s') = .ok r s') (k : ∀ g' v H', Mo g H g' H' → CS K mg g' s' H' → RL K mg g' H' r v → Q v H') :
    EndK K mg g H s' { nx := fun _ H' => Q .non H', rt := Q } o := by
  rcases fnEnd_ok h with ⟨sl, e, rfl⟩ | e
  · obtain ⟨rfl, _⟩ := ok_inj e
    exact fun g' σ' H' m c _ => k g' .non H' m c (.p .non)
  · obtain ⟨rfl, _⟩ := ok_inj e
    exact fun g' u H' m c rr => k g' u H' m c rr
theorem callF_ok {d f : Nat} {F : Fn} {vs : List Vl} {s s' : Cells} {r : Vl} (hF : R.fns[f]? = some F) (hd : F.dfl = []) (h : callF R (d + 1) f vs s = .ok r s') : vs.length = F.np ∧
    ((vs.all noRef = true ∧ s' = s ∧ (∃ q, r = .p q) ∧ ∃ o t, evB (pgOf R d) F.body (vs.map some ++ List.replicate (F.nl - vs.length) none) [] = .ok o t ∧ fnEnd (.ok o t) = .ok r t) ∨
      ∃ o, evB (pgOf R d) F.body (vs.map some ++ List.replicate (F.nl - vs.length) none) s = .ok o s' ∧ fnEnd (.ok o s') = .ok r s') := by
  have h : (match R.fns[f]? with
    | none => O.bad
    | some F =>
      if (vs ++ (F.dfl.drop (F.dfl.length - (F.np - vs.length))).map Vl.p).length == F.np then
        (if F.pure then
          match (vs ++ (F.dfl.drop (F.dfl.length - (F.np - vs.length))).map Vl.p).all noRef with
          | true => match fnEnd (evB (pgOf R d) F.body ((vs ++ (F.dfl.drop (F.dfl.length - (F.np - vs.length))).map Vl.p).map some ++ List.replicate (F.nl - (vs ++ (F.dfl.drop (F.dfl.length - (F.np - vs.length))).map Vl.p).length) none) []) with
            | .ok (.p r) _ => .ok (.p r) s
            | _ => .bad
          | false => .bad
        else fnEnd (evB (pgOf R d) F.body ((vs ++ (F.dfl.drop (F.dfl.length - (F.np - vs.length))).map Vl.p).map some ++ List.replicate (F.nl - (vs ++ (F.dfl.drop (F.dfl.length - (F.np - vs.length))).map Vl.p).length) none) s))
      else .bad) = O.ok r s' := h
  rw [hF] at h
  simp only [hd, List.drop_nil, List.map_nil, List.append_nil] at h
  split at h
  · rename_i hl
    have hl : vs.length = F.np := by simpa using hl
    refine ⟨hl, ?_⟩
    split at h
    · cases hn : vs.all noRef with
      | false => rw [hn] at h; cases h
      | true =>
        rw [hn] at h
        cases hb : evB (pgOf R d) F.body (vs.map some ++ List.replicate (F.nl - vs.length) none) [] with
        | bad => rw [hb] at h; cases h
        | ok o t =>
          rw [hb] at h
          cases hq : fnEnd (O.ok o t) with
          | bad => simp only [hq] at h; cases h
          | ok q u =>
            simp only [hq] at h
            cases q with
            | p e =>
              obtain ⟨rfl, rfl⟩ := ok_inj (show O.ok (Vl.p e) s = O.ok r s' from h)
              refine .inl ⟨rfl, rfl, ⟨e, rfl⟩, o, t, rfl, ?_⟩
              rcases fnEnd_ok hq with ⟨sl, e1, e2⟩ | e1
              · obtain ⟨_, rfl⟩ := ok_inj e1
                exact hq
              · obtain ⟨_, rfl⟩ := ok_inj e1
                exact hq
            | _ => cases h
    · refine .inr ?_
      cases hb : evB (pgOf R d) F.body (vs.map some ++ List.replicate (F.nl - vs.length) none) s with
      | bad => rw [hb] at h; cases h
      | ok o t =>
        rw [hb] at h
        rcases fnEnd_ok h with ⟨sl, e1, e2⟩ | e1
        · obtain ⟨_, rfl⟩ := ok_inj e1
          exact ⟨o, rfl, h⟩
        · obtain ⟨_, rfl⟩ := ok_inj e1
          exact ⟨o, rfl, h⟩
  · cases h
def FnL (K : PySem.W.Frag) (fa : Addr) (fd : FuncData) : Prop := ∃ (oc : Value) (od : Option Addr) (osl : Array (Option Value)), K.lookup fa = some ⟨oc, od, .func fd, osl⟩
theorem FnL.inj {fa : Addr} {fd fd' : FuncData} (h : FnL K fa fd) (h' : FnL K fa fd') : fd' = fd := by
  obtain ⟨_, _, _, e⟩ := h
  obtain ⟨_, _, _, e'⟩ := h'
  rw [e] at e'
  cases e'
  rfl
theorem fnL_of {x qual : Str} {params : Arguments} {body : List Stmt} {scope : Scope} {kws : List (Str × V)} {f : Addr} {fd : FuncData} (D : FunD K x qual params body scope [] kws f fd) : FnL K f fd := by
  obtain ⟨oc, od, dV, kV, doc, pm, an, cdv, ct, osl, rfl, lk, _⟩ := D.ex
  exact ⟨oc, od, osl, lk⟩
theorem bind_of {x qual : Str} {params : Arguments} {body : List Stmt} {scope : Scope} {kws : List (Str × V)} {f : Addr} {fd : FuncData} {ps : List Str} (D : FunD K x qual params body scope [] kws f fd) (h : plainPs params ps = true) (us : List Value) (hl : us.length = ps.length) :
    bindArgs fd ⟨us, []⟩ = pure (ps.zip us) := by
  obtain ⟨kV, doc, pm, an, cdv, ct, rfl⟩ := funD_dflt D
  exact bind_plain h us hl
theorem good_of (G : Gd P w K mg base R) {d : Nat} {X : Cx} (e1 : X.prog = P) (e2 : X.w = w) (e3 : X.K = K) (e4 : X.mg = mg) (e5 : X.base = base) (calm : X.calm = true) (nd : X.N.Nodup) (room : Room d X.A) (gd : X.A.guards = some [])
    (IH : ∀ (f : Nat) (x : Str) (ps : List Str), R.names[f]? = some (x, ps) → ∃ fa fd, mg x = some (.ref fa) ∧ PySem.W.keepIn K (.ref fa) = true ∧ FnG P w K mg base CX0 d fa fd ps (spV (pgOf R d) K mg f ps.length) ∧ Binds K fd ps [] ∧ ∀ k0, ps = [k0] → KBinds K fd ps [k0] (fun us ws => us ++ ws) (fun vs zs => vs ++ zs)) :
    Good (pgOf R d) X := by
  subst e1 e2 e3 e4 e5
  refine ⟨calm, nd, ⟨d, room⟩, gd, G.free, G.gcd, fun f x ps h => ?_, G.cst, G.dic⟩
  obtain ⟨fa, fd, h1, h2, h3, h4, h5⟩ := IH f x ps h
  exact ⟨fa, fd, d, h1, h2, room, h3, h4, h5⟩
theorem fn_all (G : Gd P w K mg base R) : ∀ (d f : Nat) (x : Str) (ps : List Str), R.names[f]? = some (x, ps) →
    ∃ fa fd, mg x = some (.ref fa) ∧ PySem.W.keepIn K (.ref fa) = true ∧ FnG P w K mg base CX0 d fa fd ps (spV (pgOf R d) K mg f ps.length) ∧ Binds K fd ps [] ∧ (∀ k0, ps = [k0] → KBinds K fd ps [k0] (fun us ws => us ++ ws) (fun vs zs => vs ++ zs)) ∧ FnL K fa fd ∧ ∀ us : List Value, us.length = ps.length → bindArgs fd ⟨us, []⟩ = pure (ps.zip us) := by
  intro d
  induction d with
  | zero =>
    intro f x ps h
    obtain ⟨F, N, D, fa, fd, e1, e2, e3, e4⟩ := G.fns f x ps h
    obtain ⟨e2, _⟩ := and2 e2
    obtain ⟨e2, e5⟩ := and2 e2
    refine ⟨fa, fd, e3, e4.kp, ⟨fun vs H Q E q => q.1, fun A outer s H args us vs Q E _ _ _ _ _ q => ?_⟩, binds_of e4 e5, fun k0 hk => by subst hk; exact kbinds_of e4 e5, fnL_of e4, bind_of e4 e5⟩
    obtain ⟨_, g, xs, t, r, t', _, _, q, _⟩ := q
    cases q
  | succ d ih =>
    intro f x ps h
    obtain ⟨F, N, D, fa, fd, e1, e2, e3, e4⟩ := G.fns f x ps h
    obtain ⟨e2, e10⟩ := and2 e2
    obtain ⟨e2, e5⟩ := and2 e2
    obtain ⟨e2, e6⟩ := and2 e2
    obtain ⟨e2, e7⟩ := and2 e2
    obtain ⟨e9, e8⟩ := and2 e2
    have e7 := of_decide_eq_true e7
    have e8 := of_decide_eq_true e8
    have e10 : F.dfl = [] := List.isEmpty_iff.mp e10
    have S := C8.fnScope_by e6
    refine ⟨fa, fd, e3, e4.kp, fnG_of (N := N) e4 S (fun vs H Q E q => q.1) fun cdv A outer s H us Q E hr hgd q => ?_, binds_of e4 e5, fun k0 hk => by subst hk; exact kbinds_of e4 e5, fnL_of e4, bind_of e4 e5⟩
    obtain ⟨hl, g, vs, t, r, t', cs, rs, hc, k⟩ := q
    refine ⟨tB (pgOf R d) (cxOf CX0 P w K mg base N D.qual D.scope fa cdv A outer s H E) F.body, ?_, ?_⟩
    · refine mB_ok (C := ⟨N, D.scope, true, R.names⟩) ⟨good_of G rfl rfl rfl rfl rfl rfl S.nd hr hgd (fun f x ps h => by
        obtain ⟨fa, fd, a1, a2, a3, a4, a5, _⟩ := ih f x ps h
        exact ⟨fa, fd, a1, a2, a3, a4, a5⟩), rfl, rfl, rfl, fun _ _ => rfl⟩ (passes_of rfl) F.body e9
    · obtain ⟨hlen, q⟩ := callF_ok e1 e10 hc
      rw [e7] at q
      rcases q with ⟨hn, rfl, ⟨dd, rfl⟩, o, u, he, hf⟩ | ⟨o, he, hf⟩
      · refine ⟨⟨g.Z, []⟩, _, [], o, u, cs_pure cs, sr_start (rls_pure rs hn), he, ?_⟩
        exact end_of hf fun g' v H' m c' rr => k ⟨g'.Z, g.rho⟩ v H' (mo_back m) (cs_back cs m c') (rl_data rr)
      · exact ⟨g, _, t, o, t', cs, sr_start rs, he, end_of hf k⟩
end
end Sh
/-! Sh15: a law's end, by promises that ask for the caller's guards. -/
set_option linter.all false
set_option autoImplicit false
set_option maxRecDepth 100000
set_option maxHeartbeats 2000000
namespace Sh
open PySem PySem.Spec PyProof.Rows L2
/-- the store at the law's call: nothing, or the script alone -/
def scrH (a : Addr) (o : Obj) (ns : List Int) : Hp := fun b => if b = a then some (.frz o (.lst (ns.map V.int))) else none
section
variable {P : Program} {w : World} {K : PySem.W.Frag} {mg mb : Str → Option Value} {k : Nat} {fa a : Addr} {fd : FuncData} {x : Str} {sp : Sp} {s₁ : Shared} {vs : List Value} {ns : List Int}
theorem only_scr {o : Obj} : Only (scrH a o ns) := fun b => by
  unfold scrH
  split
  · exact .inr ⟨_, _, rfl⟩
  · exact .inl rfl
/-- the script's own object keeps, through any run of a def -/
theorem scr_keeps {H H' : Hp} {s' : Shared} (hO : Only H) (ok : HOk P w H s₁.heap) (ok' : HOk P w H' s'.heap) (un : Un (frs []) [] H H' s₁.heap s'.heap) : OldK s₁.heap s'.heap :=
  OldK.of_keep fun b o e => by
    rcases hO b with z | ⟨ob, xs, z⟩
    · exact un.keep b o e z (fun m => by cases m) (fun m => by cases m)
    · obtain ⟨p1, _⟩ := ok b _ z
      obtain ⟨p2, _⟩ := ok' b _ (un.frzs b ob _ z)
      rw [e] at p1
      cases p1
      exact p2
/-- the call of the law's def from a store H in which no dict of the module is tracked -/
theorem callG_from {H : Hp} (KX : K.In s₁.heap) (hns : s₁.heap.Ns mainGlobals mg) (hb : s₁.heap.Ns builtinsNs mb) (hbb : ∀ y : Str, y ≠ "__name__" → mb y = bootBuiltins y) (hlim : s₁.heap.NoLimit) (hg : s₁.gens = #[]) (hr : Room k callerA)
    (F : ∀ base : Heap, K.In base → base.Ns mainGlobals mg → FnG P w K mg base CX0 k fa fd [x] sp) (hbind : ∀ (s : Shared) (u : Value), BindsTo s fd ⟨[u], []⟩ [(x, u)])
    (hO : Only H) (hsp : sp [.ref a] H (fun v _ => v = .bl true) fun _ _ _ => False) (ok : HOk P w H s₁.heap) (nd : ∀ (b : Addr) (o : Obj) (es : Array DictEntry) (ep : Nat), s₁.heap.get? b = some o → o.data = .dict es ep → H b = none)
    (nk : ∀ b o, K.lookup b = some o → H b = none) :
    codeAny (model P w) callerA (.call (.ref fa) ⟨[.ref a], []⟩) (fun r s' => r = .ok (.ret (.bool true)) ∧ OldK s₁.heap s'.heap ∧ s'.os = s₁.os ∧ AllBare s'.gens) s₁ := by
  have low : ∀ {b : Addr} {m : Str → Option Value}, s₁.heap.Ns b m → (hidT s₁.heap H).Ns b m := fun {b m} q => by
    obtain ⟨o, es, ep, e, d, r⟩ := q
    exact ⟨o, es, ep, hidT_get e (nd b o es ep e d), d, r⟩
  have kin : K.In (hidT s₁.heap H) := fun b o e => hidT_get (KX b o e) (nk b o e)
  have lim : (hidT s₁.heap H).NoLimit := by
    obtain ⟨m, l1, l2⟩ := hlim
    exact ⟨m, low l1, l2⟩
  have env : Env0 P w K mg (hidT s₁.heap H) callerA [] s₁ H := {
    frames := rfl
    mod := ⟨kin, low hns, ⟨mb, low hb, hbb⟩, lim⟩
    bs := fun b o e => of_hidT e
    bsz := Nat.le_of_eq (hidT_size _ _)
    funs := trivial
    frf := fun b m => by cases m
    hok := ok
    bare := .of_eq hg }
  refine codeAny_mono ((F _ kin (low hns)).run callerA [] s₁ H ⟨[.ref a], []⟩ [.ref a] [.ref a] _ _ hr rfl env (hbind s₁ (.ref a)) (.cons rfl .nil) hsp) fun r s' h => ?_
  cases r with
  | error e => exact h.elim
  | ok fl =>
    cases fl with
    | ret u =>
      obtain ⟨v, H', os, bare, un, ok', rv, rfl⟩ := h
      cases (show u = Value.bool true from rv)
      exact ⟨rfl, scr_keeps hO ok ok' un, os, bare⟩
    | _ => exact h.elim
/-- the call of the law's def -/
theorem callG (KX : K.In s₁.heap) (hns : s₁.heap.Ns mainGlobals mg) (hb : s₁.heap.Ns builtinsNs mb) (hbb : ∀ y : Str, y ≠ "__name__" → mb y = bootBuiltins y) (hlim : s₁.heap.NoLimit) (hg : s₁.gens = #[])
    (ha : s₁.heap.get? a = some { cls := .type "list", data := .seq vs.toArray }) (hi : IntsAre vs ns) (hl : ns.length ≤ sizeLine) (hr : Room k callerA)
    (F : ∀ base : Heap, K.In base → base.Ns mainGlobals mg → FnG P w K mg base CX0 k fa fd [x] sp) (hbind : ∀ (s : Shared) (u : Value), BindsTo s fd ⟨[u], []⟩ [(x, u)])
    (hsp : ∀ H : Hp, Only H → SqF K H a (ns.map V.int) → sp [.ref a] H (fun v _ => v = .bl true) fun _ _ _ => False) :
    codeAny (model P w) callerA (.call (.ref fa) ⟨[.ref a], []⟩) (fun r s' => r = .ok (.ret (.bool true)) ∧ OldK s₁.heap s'.heap ∧ s'.os = s₁.os ∧ AllBare s'.gens) s₁ := by
  have rv := vals_ints hi
  cases hk : K.lookup a with
  | some o =>
    have e := KX a o hk
    rw [ha] at e
    cases e
    have hO : Only (fun _ => none) := fun _ => .inl rfl
    refine callG_from KX hns hb hbb hlim hg hr F hbind hO (hsp _ hO (.inr ⟨_, vs.toArray, _, hk, rfl, rfl, rfl, ?_, by simpa using rv⟩)) (fun b u q => by cases q) (fun _ _ _ _ _ _ => rfl) fun _ _ _ => rfl
    rw [List.size_toArray, hi.length]
    exact hl
  | none =>
    have here : scrH a { cls := .type "list", data := .seq vs.toArray } ns a = some (.frz { cls := .type "list", data := .seq vs.toArray } (.lst (ns.map V.int))) := if_pos rfl
    have else_ : ∀ b, b ≠ a → scrH a { cls := .type "list", data := .seq vs.toArray } ns b = none := fun b h => if_neg h
    refine callG_from (H := scrH a { cls := .type "list", data := .seq vs.toArray } ns) KX hns hb hbb hlim hg hr F hbind only_scr (hsp _ only_scr (.inl ⟨_, here⟩)) (fun b u q => ?_) (fun b o es ep e d => ?_) fun b o e => ?_
    · by_cases h : b = a
      · subst h
        rw [here] at q
        cases q
        exact ⟨ha, by rw [List.length_map]; exact hl, vs, _, rv, ha⟩
      · rw [else_ b h] at q
        cases q
    · refine else_ b fun h => ?_
      subst h
      rw [ha] at e
      cases e
      cases d
    · refine else_ b fun h => ?_
      subst h
      rw [hk] at e
      cases e
end
/-- a law, by promises that ask for the guards -/
theorem walkG {l : PySem.W.OpenLaw} {n k : Nat} {q : Program} {loose : List Str} {XP : (Str → Option Value) → Heap → Prop} {YP : World → Heap → Prop} {d : DefRec} {x : Str}
    (hn : l.most = some n) (hn2 : n ≤ sizeLine) (hdf : d.params.defaults = []) (hr : Room k callerA)
    (F : ∀ (w : World) (mg : Str → Option Value) (fa : Addr) (h : Heap), YP w h → h.Ns mainGlobals mg → mg d.name = some (.ref fa) →
      ∃ (K : PySem.W.Frag) (fd : FuncData) (sp : Sp), K.In h ∧ (∀ (s : Shared) (u : Value), BindsTo s fd ⟨[u], []⟩ [(x, u)]) ∧
        (∀ (H : Hp) (a : Addr) (ns : List Int), ns.length ≤ n → (∀ i ∈ ns, Builtin.Int.intBits i ≤ 1048576) → Only H → SqF K H a (ns.map V.int) → sp [.ref a] H (fun v _ => v = .bl true) fun _ _ _ => False) ∧
        ∀ base : Heap, K.In base → base.Ns mainGlobals mg → FnG l.prog w K mg base CX0 k fa fd [x] sp) :
    PySem.W.WalkO q loose XP YP l.row.toRowW d [] (fun f vs => PySem.call f vs) :=
  Att.attach_callB hn hdf fun w s₀ s₁ mg mb fa o pm cd doc a vs ns G Y ho hd hcd hmg hobj hints hlen hbits hg => by
    obtain ⟨K, fd, sp, KX, hb, hsp, hF⟩ := F w mg fa _ Y G.T.g hmg
    exact callG KX G.T.g G.T.b G.T.builtins G.T.nolimit hg hobj hints (Nat.le_trans hlen hn2) hr hF hb fun H hO hS => hsp H a ns hlen hbits hO hS
end Sh
/-! Sh16: what is looked at behind the module's top. -/
set_option linter.all false
set_option autoImplicit false
set_option maxRecDepth 100000
set_option maxHeartbeats 2000000
namespace Sh
open PySem PySem.Spec PyProof.Rows L2
/-! ### data of the module -/
mutual
def datB (K : PySem.W.Frag) : PyData → Value → Bool
  | .none => fun u => match u with | .none => true | _ => false
  | .bool b => fun u => match u with | .bool c => decide (b = c) | _ => false
  | .int i => fun u => match u with | .int j _ => decide (i = j) | _ => false
  | .str x => fun u => match u with | .str y _ => decide (x = y) | _ => false
  | .tuple ds => fun u => match u with
    | .ref a => (match K.lookup a with
      | some ⟨.type c, _, .seq its _, _⟩ => decide (c = "tuple") && (Nat.ble its.size sizeLine && datsB K ds its.toList)
      | _ => false)
    | _ => false
  | _ => fun _ => false
def datsB (K : PySem.W.Frag) : List PyData → List Value → Bool
  | [] => fun us => us.isEmpty
  | d :: ds => fun us => match us with
    | [] => false
    | u :: us => datB K d u && datsB K ds us
end
section
variable {K : PySem.W.Frag}
mutual
theorem datB_ok : ∀ (d : PyData) {u : Value}, datB K d u = true → ∃ v, RelV v u ∧ ∀ Z H, DZ K Z H v d
  | .none, u, h => by
    cases u with
    | none => exact ⟨.non, rfl, fun _ _ => .non⟩
    | _ => cases h
  | .bool b, u, h => by
    cases u with
    | bool c =>
      cases of_decide_eq_true (show decide (b = c) = true from h)
      exact ⟨.bl b, rfl, fun _ _ => .bl b⟩
    | _ => cases h
  | .int i, u, h => by
    cases u with
    | int j t =>
      cases of_decide_eq_true (show decide (i = j) = true from h)
      exact ⟨.int i, ⟨t, rfl⟩, fun _ _ => .int i⟩
    | _ => cases h
  | .str x, u, h => by
    cases u with
    | str y t =>
      cases of_decide_eq_true (show decide (x = y) = true from h)
      exact ⟨.str x, ⟨t, rfl⟩, fun _ _ => .str x⟩
    | _ => cases h
  | .tuple ds, u, h => by
    cases u with
    | ref a =>
      have h : (match K.lookup a with
        | some ⟨.type c, _, .seq its _, _⟩ => decide (c = "tuple") && (Nat.ble its.size sizeLine && datsB K ds its.toList)
        | _ => false) = true := h
      cases q : K.lookup a with
      | none => rw [q] at h; cases h
      | some o =>
        obtain ⟨oc, od, dt, osl⟩ := o
        rw [q] at h
        cases oc with
        | type c =>
          cases dt with
          | seq its n =>
            obtain ⟨h1, h2⟩ := and2 (show (decide (c = "tuple") && (Nat.ble its.size sizeLine && datsB K ds its.toList)) = true from h)
            obtain ⟨h3, h4⟩ := and2 h2
            obtain ⟨xs, r, z⟩ := datsB_ok ds h4
            exact ⟨.ref a, rfl, fun Z H => .tup (.inr ⟨_, its, n, q, congrArg Value.type (of_decide_eq_true h1), rfl, Nat.le_of_ble_eq_true h3, r⟩) (z Z H)⟩
          | _ => cases h
        | _ => cases dt <;> cases h
    | _ => cases h
  | .list ds, u, h => by cases h
  | .dict ds, u, h => by cases h
theorem datsB_ok : ∀ (ds : List PyData) {us : List Value}, datsB K ds us = true → ∃ xs, Vals xs us ∧ ∀ Z H, DZs K Z H xs ds
  | [], us, h => by
    cases us with
    | nil => exact ⟨[], .nil, fun _ _ => .nil⟩
    | cons _ _ => cases h
  | d :: ds, us, h => by
    cases us with
    | nil => cases h
    | cons u us =>
      obtain ⟨h1, h2⟩ := and2 (show (datB K d u && datsB K ds us) = true from h)
      obtain ⟨v, r, z⟩ := datB_ok d h1
      obtain ⟨xs, rs, zs⟩ := datsB_ok ds h2
      exact ⟨v :: xs, .cons r rs, fun Z H => .cons (z Z H) (zs Z H)⟩
end
end
/-- what a law's module holds: names of no meaning, constants, written dicts -/
structure Md where
  csts : List (Str × PyData)
  dics : List (Str × List (Str × PyData))
  fns : List Str
def isGcd (u : Option (Option Value)) : Bool := decide (u = some (some (.builtin "math.gcd")))
def lookB (K : PySem.W.Frag) (a : Addr) (q : Str × PyData) : Bool := match PySem.W.nsIn K a q.1 with
  | some (some u) => datB K q.2 u
  | _ => false
def mdB (K : PySem.W.Frag) (S : Md) : Bool := (bltNames.all fun x => He.eqO (PySem.W.nsIn K mainGlobals x) (some none)) && He.eqO (PySem.W.nsIn K mainGlobals "gcd") (some (some (.builtin "math.gcd"))) &&
  (S.csts.all fun q => lookB K mainGlobals q) && (S.dics.all fun q => He.eqO (PySem.W.nsIn K mainGlobals q.1) (some (some (.ref (He.ga K q.1)))) && q.2.all fun z => lookB K (He.ga K q.1) z) &&
  S.fns.all fun x => He.eqO (PySem.W.nsIn K mainGlobals x) (some (some (.ref (He.ga K x))))
theorem lookB_ok {K : PySem.W.Frag} {a : Addr} {q : Str × PyData} (h : lookB K a q = true) : ∃ u v, PySem.W.nsIn K a q.1 = some (some u) ∧ RelV v u ∧ ∀ Z H, DZ K Z H v q.2 := by
  unfold lookB at h
  cases e : PySem.W.nsIn K a q.1 with
  | none => rw [e] at h; cases h
  | some r =>
    rw [e] at h
    cases r with
    | none => cases h
    | some u =>
      obtain ⟨v, r, z⟩ := datB_ok q.2 h
      exact ⟨u, v, rfl, r, z⟩
def defsOf (b : List Stmt) : List He.DefD := b.filterMap fun st => match st with
  | .FunctionDef name args body _ _ _ scope _ _ _ => some { at_ := (name, none), name := name, qual := name, params := args, body := body, scope := scope }
  | _ => none
def tabsOfM (S : Md) : List He.Tab := S.dics.map fun q => (fun K => He.ga K q.1, q.2.map (·.1))
/-- the objects that the module's names reach, level by level -/
def lvG (g : Addr → Option Obj) (as : List Addr) : List Addr := as.flatMap fun a => match g a with
  | some o => He.refsD o
  | none => []
def asQ (g : Addr → Option Obj) : Nat → List Addr → List Addr
  | 0, as => as
  | n + 1, as => as ++ asQ g n (lvG g as)
abbrev AlS : Type := Bool × He.AlT
def obsS (S : Md) (fn : List He.DefD) (K : PySem.W.Frag) : AlS := (mdB K S, He.obsT [] fn (tabsOfM S) K)
def obsSG (n : Nat) (S : Md) (fn : List He.DefD) (g : Addr → Option Obj) : AlS := obsS S fn (He.frG g (asQ g n [mainGlobals]))
def hookS (n : Nat) (S : Md) (fn : List He.DefD) : PySem.W.Hook where
  α := AlS
  obs := fun s => obsSG n S fn s.heap.get?
  val := fun w => (true, He.valT fn (tabsOfM S) w)
  says := fun w h => ∃ K : PySem.W.Frag, K.In h ∧ mdB K S = true ∧ He.SaysT [] fn (tabsOfM S) w K
  of := fun _ _ e => ⟨_, He.frG_in, congrArg (fun z : AlS => z.1) e, congrArg (fun z : AlS => z.2) e⟩
  keeps := fun _ _ _ ⟨K, hK, c⟩ k => ⟨K, PySem.W.Frag.In.keeps hK k, c⟩
theorem obsSG_eq {n : Nat} {S : Md} {fn : List He.DefD} {g : Addr → Option Obj} {s : Shared} (h : ∀ a, g a = s.heap.get? a) : obsSG n S fn g = (hookS n S fn).obs s := by
  have e : g = s.heap.get? := funext h
  rw [e] <;> rfl
theorem keys_find {es : List DictEntry} : ∀ {P : Params} {ks : List Str} {z : Str}, es.map He.keyOf = He.keysIn P ks → z ∉ ks → es.find? (·.key.isStr z) = none ∧ es.any (·.refKey) = false := by
  induction es with
  | nil => exact fun _ _ => ⟨rfl, rfl⟩
  | cons e r ih =>
    intro P ks z h hz
    cases ks with
    | nil => cases h
    | cons k ks =>
      have h1 : He.keyOf e :: r.map He.keyOf = some (k, PyData.keyHash P k) :: He.keysIn P ks := h
      injection h1 with h2 h3
      obtain ⟨i1, i2⟩ := ih h3 fun m => hz (List.mem_cons_of_mem _ m)
      unfold He.keyOf at h2
      split at h2
      · rename_i x t q
        obtain ⟨h5, _⟩ := Prod.mk.inj (Option.some.inj h2)
        subst h5
        have e1 : e.key.isStr z = false := by
          rw [q]
          exact beq_eq_false_iff_ne.mpr fun e => hz (by rw [← e]; exact List.mem_cons_self)
        have e2 : e.refKey = false := by
          unfold DictEntry.refKey
          rw [q]
        exact ⟨by rw [List.find?_cons, e1]; exact i1, by rw [List.any_cons, e2, i2]; rfl⟩
      · cases h2
theorem dicW_none {K : PySem.W.Frag} {w : World} {a : Addr} {ks : List Str} (h : He.dicW K a = some (He.keysIn w.params ks)) {z : Str} (hz : z ∉ ks) : PySem.W.nsIn K a z = some none := by
  unfold He.dicW at h
  split at h
  · rename_i c es n sl q
    split at h
    · have h1 := Option.some.inj h
      obtain ⟨f1, f2⟩ := keys_find h1 hz
      unfold PySem.W.nsIn
      rw [q]
      show (match es.toList.find? (·.key.isStr z) with
        | some e => some (some e.val)
        | none => if es.toList.any (·.refKey) then none else some none) = _
      rw [f1, f2]
      rfl
    · cases h
  · cases h
theorem lookup_mem {α : Type} {t : List (Str × α)} {z : Str} {d : α} (h : t.lookup z = some d) : (z, d) ∈ t := by
  induction t with
  | nil => cases h
  | cons q r ih =>
    obtain ⟨k, v⟩ := q
    rw [List.lookup_cons] at h
    split at h
    · rename_i hk
      have hk : z = k := by simpa using hk
      cases h
      rw [hk]
      exact List.mem_cons_self
    · exact List.mem_cons_of_mem _ (ih h)
theorem lookup_none {α : Type} {t : List (Str × α)} {z : Str} (h : t.lookup z = none) : z ∉ t.map (·.1) := by
  induction t with
  | nil => exact fun m => by cases m
  | cons q r ih =>
    obtain ⟨k, v⟩ := q
    rw [List.lookup_cons] at h
    split at h
    · cases h
    · rename_i hk
      intro m
      rcases List.mem_cons.mp m with e | e
      · have e : z = k := e
        rw [e] at hk
        simp at hk
      · exact ih h e
/-! ### the program by its text -/
def cstOf (S : Md) (x : Str) : Option Vl := match S.csts.lookup x with
  | some d => some (.p d)
  | none => if (S.dics.lookup x).isSome then some (.dic x) else none
/-- the i-th def of the text is what the i-th def of the program says -/
def allB (R : Pr) (Ns : List (List Str)) : List He.DefD → Nat → Bool
  | [], i => decide (R.names.length = i) && decide (R.fns.length = i)
  | d :: ds, i => (match R.names[i]?, R.fns[i]?, Ns[i]? with
    | some (x, ps), some F, some N => eqS x d.name && defB R F ps N d && d.dfl.isEmpty && d.kwd.isEmpty && decide (d.at_ = (x, none))
    | _, _, _ => false) && allB R Ns ds (i + 1)
theorem allB_ok {R : Pr} {Ns : List (List Str)} : ∀ {ds : List He.DefD} {i f : Nat} {x : Str} {ps : List Str}, allB R Ns ds i = true → i ≤ f → R.names[f]? = some (x, ps) → ∃ F N d, ds[f - i]? = some d ∧ R.fns[f]? = some F ∧ Ns[f]? = some N ∧ defB R F ps N d = true ∧ d.dfl = [] ∧ d.kwd = [] ∧ d.at_ = (x, none)
  | [], i, f, x, ps, h, hi, e => by
    obtain ⟨h1, _⟩ := and2 (show (decide (R.names.length = i) && decide (R.fns.length = i)) = true from h)
    have h1 := of_decide_eq_true h1
    have := (List.getElem?_eq_some_iff.mp e).1
    omega
  | d :: ds, i, f, x, ps, h, hi, e => by
    obtain ⟨h1, h2⟩ := and2 (show ((match R.names[i]?, R.fns[i]?, Ns[i]? with
      | some (x, ps), some F, some N => eqS x d.name && defB R F ps N d && d.dfl.isEmpty && d.kwd.isEmpty && decide (d.at_ = (x, none))
      | _, _, _ => false) && allB R Ns ds (i + 1)) = true from h)
    by_cases hf : f = i
    · subst hf
      rw [e] at h1
      cases q1 : R.fns[f]? with
      | none => rw [q1] at h1; cases h1
      | some F =>
        cases q2 : Ns[f]? with
        | none => rw [q1, q2] at h1; cases h1
        | some N =>
          rw [q1, q2] at h1
          obtain ⟨h1, h7⟩ := and2 (show (eqS x d.name && defB R F ps N d && d.dfl.isEmpty && d.kwd.isEmpty && decide (d.at_ = (x, none))) = true from h1)
          obtain ⟨h1, h6⟩ := and2 h1
          obtain ⟨h1, h5⟩ := and2 h1
          obtain ⟨h3, h4⟩ := and2 h1
          exact ⟨F, N, d, by rw [Nat.sub_self]; rfl, rfl, rfl, h4, List.isEmpty_iff.mp h5, List.isEmpty_iff.mp h6, of_decide_eq_true h7⟩
    · obtain ⟨F, N, d', e1, r⟩ := allB_ok h2 (by omega) e
      refine ⟨F, N, d', ?_, r⟩
      rw [show f - i = (f - (i + 1)) + 1 by omega, List.getElem?_cons_succ]
      exact e1
theorem gd_of {P : Program} {w : World} {K : PySem.W.Frag} {mg : Str → Option Value} {h base : Heap} {R : Pr} {S : Md} {fn : List He.DefD} {Ns : List (List Str)} (hK : K.In h) (hns : h.Ns mainGlobals mg) (hm : mdB K S = true) (hs : He.SaysT [] fn (tabsOfM S) w K)
    (e1 : R.cst = cstOf S) (e2 : R.dics = fun x => S.dics.lookup x) (e3 : S.fns = R.names.map (·.1)) (hB : allB R Ns fn 0 = true) : Gd P w K mg base R := by
  obtain ⟨hm, h5⟩ := and2 hm
  obtain ⟨hm, h4⟩ := and2 hm
  obtain ⟨hm, h3⟩ := and2 hm
  obtain ⟨h1, h2⟩ := and2 hm
  have hdic : ∀ x t, S.dics.lookup x = some t → mg x = some (.ref (He.ga K x)) ∧ (∀ q ∈ t, lookB K (He.ga K x) q = true) ∧ He.dicW K (He.ga K x) = some (He.keysIn w.params (t.map (·.1))) := fun x t ht => by
    have hmem := lookup_mem ht
    obtain ⟨a1, a2⟩ := and2 (List.all_eq_true.mp h4 _ hmem)
    refine ⟨PySem.W.mg_of hK hns (He.eqO_ok a1), List.all_eq_true.mp a2, ?_⟩
    obtain ⟨i, hi, hg⟩ := List.mem_iff_getElem.mp hmem
    have e : (tabsOfM S).map (fun t => He.dicW K (t.1 K)) = (tabsOfM S).map fun t => some (He.keysIn w.params t.2) := congrArg (fun z : He.AlT => z.2) hs
    have e2 : ((tabsOfM S).map fun t => He.dicW K (t.1 K))[i]? = ((tabsOfM S).map fun t => some (He.keysIn w.params t.2))[i]? := by rw [e]
    unfold tabsOfM at e2
    simp only [List.getElem?_map, List.getElem?_eq_getElem hi, hg, Option.map_some] at e2
    exact Option.some.inj e2
  refine ⟨fun x hx => PySem.W.mg_none_of hK hns (He.eqO_ok (List.all_eq_true.mp h1 x hx)), PySem.W.mg_of hK hns (He.eqO_ok h2), fun x v hv => ?_, fun x t ht => ?_, fun f x ps hf => ?_⟩
  · rw [e1] at hv
    unfold cstOf at hv
    split at hv
    · rename_i d hd
      cases hv
      obtain ⟨u, v', a1, a2, a3⟩ := lookB_ok (List.all_eq_true.mp h3 _ (lookup_mem hd))
      exact ⟨u, v', PySem.W.mg_of hK hns a1, a2, fun g H => .p (a3 _ _)⟩
    · split at hv
      · rename_i hd
        cases hv
        obtain ⟨t, ht⟩ := Option.isSome_iff_exists.mp hd
        obtain ⟨a1, _⟩ := hdic x t ht
        exact ⟨_, .ref (He.ga K x), a1, rfl, fun g H => .dic a1⟩
      · cases hv
  · rw [e2] at ht
    obtain ⟨a1, a2, a3⟩ := hdic x t ht
    obtain ⟨es, n, D⟩ := He.dicW_ok a3
    refine ⟨He.ga K x, es, n, a1, D, fun z => ?_⟩
    cases hz : t.lookup z with
    | none => exact .inl ⟨rfl, dicW_none a3 (lookup_none hz)⟩
    | some d =>
      obtain ⟨u, v, b1, b2, b3⟩ := lookB_ok (a2 _ (lookup_mem hz))
      exact .inr ⟨d, u, v, rfl, b1, b2, b3⟩
  · obtain ⟨F, N, d, b1, b2, b3, b4, b5, b6, b7⟩ := allB_ok hB (Nat.zero_le f) hf
    rw [Nat.sub_zero] at b1
    obtain ⟨fd, D⟩ := hs.d.def_ f b1
    have c1 : d.dvs K = [] := by unfold He.DefD.dvs; rw [b5]; rfl
    have c2 : d.kws K = [] := by unfold He.DefD.kws; rw [b6]; rfl
    rw [c1, c2] at D
    refine ⟨F, N, d, He.fAd K d.at_, fd, b2, b4, ?_, D⟩
    rw [b7]
    have hx : x ∈ S.fns := by
      rw [e3]
      exact List.mem_map.mpr ⟨_, List.mem_of_getElem? hf, rfl⟩
    exact PySem.W.mg_of hK hns (He.eqO_ok (List.all_eq_true.mp h5 x hx))
end Sh
/-! Sw: what a term of the small language is worth, said forwards (rules by the term's form). -/
set_option linter.all false
set_option autoImplicit false
set_option maxRecDepth 100000
set_option maxHeartbeats 1000000
namespace Sh
open PySem
/-- a run that ends well, and what holds then -/
def Okk {α : Type} (m : O α) (Q : α → Cells → Prop) : Prop := ∃ v s', m = .ok v s' ∧ Q v s'
section
variable {α β : Type} {m : O α} {f : α → Cells → O β} {Q : β → Cells → Prop} {R : α → Cells → Prop}
theorem Okk.ret {a : α} {s : Cells} (h : R a s) : Okk (.ok a s) R := ⟨a, s, rfl, h⟩
theorem Okk.bind (h : Okk m fun a s => Okk (f a s) Q) : Okk (m.bind f) Q := by
  obtain ⟨a, s, rfl, h⟩ := h
  exact h
theorem Okk.lift {o : Option α} {a : α} {s : Cells} (e : o = some a) (h : R a s) : Okk (lift o s) R := by
  subst e
  exact ⟨a, s, rfl, h⟩
theorem Okk.mono {R' : α → Cells → Prop} (h : Okk m R) (k : ∀ a s, R a s → R' a s) : Okk m R' := by
  obtain ⟨a, s, e, h⟩ := h
  exact ⟨a, s, e, k a s h⟩
theorem Okk.eq {a : α} {s : Cells} (e : m = .ok a s) (h : R a s) : Okk m R := ⟨a, s, e, h⟩
end
section
variable {P : Pg} {sl : Sl} {s : Cells} {Q : Vl → Cells → Prop} {a b c i o : E} {l : L}
theorem wVar {k : Nat} {v : Vl} (e : sl[k]? = some (some v)) (h : Q v s) : Okk (evE P (.var k) sl s) Q := by
  refine ⟨v, s, ?_, h⟩
  show (match sl[k]? with | some (some v) => O.ok v s | _ => .bad) = _
  rw [e]
theorem wGlo {x : Str} {v : Vl} (e : P.cst x = some v) (h : Q v s) : Okk (evE P (.glo x) sl s) Q := by
  refine ⟨v, s, ?_, h⟩
  show (match P.cst x with | some v => O.ok v s | none => .bad) = _
  rw [e]
theorem wNon (h : Q (.p .none) s) : Okk (evE P .non sl s) Q := .ret h
theorem wEmp (h : Q (.p (.dict [])) s) : Okk (evE P .emp sl s) Q := .ret h
theorem wBl {k : Bool} (h : Q (.p (.bool k)) s) : Okk (evE P (.bl k) sl s) Q := .ret h
theorem wInt {k : Int} (h : Q (.p (.int k)) s) : Okk (evE P (.int k) sl s) Q := .ret h
theorem wStr {x : Str} (h : Q (.p (.str x)) s) : Okk (evE P (.str x) sl s) Q := .ret h
theorem wTyc {x : Str} {n : String} (h : Q (.ty n) s) : Okk (evE P (.tyc x n) sl s) Q := .ret h
theorem wNot (h : Okk (evE P a sl s) fun x s => ∃ k, truth s x = some k ∧ Q (.p (.bool (!k))) s) : Okk (evE P (.not a) sl s) Q := by
  refine Okk.bind (h.mono fun x s ⟨k, e, q⟩ => ?_)
  refine ⟨_, s, ?_, q⟩
  show (match truth s x with | some b => O.ok (Vl.p (.bool (!b))) s | none => .bad) = _
  rw [e]
theorem wBin {o : BOp} (h : Okk (evE P a sl s) fun x s => Okk (evE P b sl s) fun y s => ∃ d, binV o x y s = some d ∧ Q (.p d) s) : Okk (evE P (.bin o a b) sl s) Q :=
  Okk.bind (h.mono fun x s h => Okk.bind (h.mono fun y s ⟨d, e, q⟩ => Okk.bind (Okk.lift e (.ret q))))
theorem wCmp {o : COp} (h : Okk (evE P a sl s) fun x s => Okk (evE P b sl s) fun y s => ∃ d, cmpV P o x y s = some d ∧ Q (.p (.bool d)) s) : Okk (evE P (.cmp o a b) sl s) Q :=
  Okk.bind (h.mono fun x s h => Okk.bind (h.mono fun y s ⟨d, e, q⟩ => Okk.bind (Okk.lift e (.ret q))))
theorem wBool {k : Bool} (h : Okk (evE P a sl s) fun x s => ∃ t, truth s x = some t ∧ ((t = k ∧ Okk (evE P b sl s) Q) ∨ (t = (!k) ∧ Q x s))) : Okk (evE P (.bool k a b) sl s) Q := by
  refine Okk.bind (h.mono fun x s ⟨t, e, w⟩ => Okk.bind (Okk.lift e ?_))
  rcases w with ⟨rfl, q⟩ | ⟨rfl, q⟩
  · rw [show Bool.xor t t = false by cases t <;> rfl]
    exact q
  · rw [show Bool.xor (!k) k = true by cases k <;> rfl]
    exact .ret q
theorem wOne (h : Okk (evE P a sl s) Q) : Okk (evE P (.one a) sl s) Q := h
theorem wIfe (h : Okk (evE P c sl s) fun x s => ∃ t, truth s x = some t ∧ Okk (evE P (match t with | true => a | false => b) sl s) Q) : Okk (evE P (.ife c a b) sl s) Q := by
  refine Okk.bind (h.mono fun x s ⟨t, e, w⟩ => Okk.bind (Okk.lift e ?_))
  cases t <;> exact w
theorem wTup (h : Okk (evL P l sl s) fun vs s => ∃ ds, allP vs = some ds ∧ Q (.p (.tuple ds)) s) : Okk (evE P (.tup l) sl s) Q :=
  Okk.bind (h.mono fun vs s ⟨ds, e, q⟩ => Okk.bind (Okk.lift e (.ret q)))
theorem wLst (h : Okk (evL P l sl s) fun vs s => ∃ ds, allP vs = some ds ∧ Q (.p (.list ds)) s) : Okk (evE P (.lst l) sl s) Q :=
  Okk.bind (h.mono fun vs s ⟨ds, e, q⟩ => Okk.bind (Okk.lift e (.ret q)))
theorem wCell (h : Okk (evL P l sl s) fun vs s => Q (.ref s.length) (s ++ [.lst vs])) : Okk (evE P (.cell l) sl s) Q :=
  Okk.bind (h.mono fun vs s q => .ret q)
theorem wIx (h : Okk (evE P a sl s) fun x s => Okk (evE P i sl s) fun y s => ∃ v, ixV P x y s = some v ∧ Q v s) : Okk (evE P (.ix a i) sl s) Q :=
  Okk.bind (h.mono fun x s h => Okk.bind (h.mono fun y s ⟨d, e, q⟩ => Okk.lift e q))
theorem wSl {lo hi : E} (h : Okk (evE P a sl s) fun x s => Okk (evE P lo sl s) fun l s => Okk (evE P hi sl s) fun u s => ∃ l' u' d, optB lo l = some l' ∧ optB hi u = some u' ∧ slV x l' u' s = some d ∧ Q (.p d) s) : Okk (evE P (.sl a lo hi) sl s) Q :=
  Okk.bind (h.mono fun x s h => Okk.bind (h.mono fun y s h => Okk.bind (h.mono fun z s ⟨l', u', d, e1, e2, e3, q⟩ => Okk.bind (Okk.lift e1 (Okk.bind (Okk.lift e2 (Okk.bind (Okk.lift e3 (.ret q)))))))))
theorem wCall {f : Nat} (h : Okk (evL P l sl s) fun vs s => Okk (P.call f vs s) Q) : Okk (evE P (.call f l) sl s) Q := Okk.bind h
theorem wCallK {f : Nat} {k : Str} (h : Okk (evE P a sl s) fun v s => Okk (P.call f [v] s) Q) : Okk (evE P (.callK f k a) sl s) Q := Okk.bind h
theorem wBlt {q : B} (h : Okk (evL P l sl s) fun vs s => Okk (bltV P q vs s) Q) : Okk (evE P (.blt q l) sl s) Q := Okk.bind h
theorem wMth {m : M} (h : Okk (evE P o sl s) fun x s => tyOkV m x s = true ∧ Okk (evL P l sl s) fun vs s => Okk (mthV P m x vs s) Q) : Okk (evE P (.mth m o l) sl s) Q := by
  refine Okk.bind (h.mono fun x s ⟨e, h⟩ => ?_)
  show Okk (match tyOkV m x s with
    | true => (evL P l sl s).bind fun vs s => mthV P m x vs s
    | false => .bad) Q
  rw [e]
  exact Okk.bind h
theorem wSlrev {xs : List PyData} (h : Okk (evE P a sl s) fun x s => x = .p (.list xs) ∧ Q (.p (.list xs.reverse)) s) : Okk (evE P (.slrev a) sl s) Q :=
  Okk.bind (h.mono fun x s ⟨e, q⟩ => by subst e; exact .ret q)
theorem wLc {elt : E} {tg : Tg} {it : I} {own : List (Str × Nat)} (h : Okk (evI P it sl s) fun xs s => Okk (lcLoop (lcTurn P elt tg c (wipeS sl (own.map (·.2)))) xs s) fun ds s => Nat.ble ds.length sizeLine = true ∧ Q (.p (.list ds)) s) :
    Okk (evE P (.lc elt tg it c own) sl s) Q := by
  refine Okk.bind (h.mono fun xs s h => Okk.bind (h.mono fun ds s ⟨e, q⟩ => ?_))
  show Okk (if Nat.ble ds.length sizeLine = true then O.ok (Vl.p (.list ds)) s else .bad) Q
  rw [if_pos e]
  exact .ret q
end
section
variable {P : Pg} {sl : Sl} {s : Cells}
theorem wNil {Q : List Vl → Cells → Prop} (h : Q [] s) : Okk (evL P .nil sl s) Q := .ret h
theorem wCons {Q : List Vl → Cells → Prop} {a : E} {l : L} (h : Okk (evE P a sl s) fun x s => Okk (evL P l sl s) fun xs s => Q (x :: xs) s) : Okk (evL P (.cons a l) sl s) Q :=
  Okk.bind (h.mono fun x s h => Okk.bind (h.mono fun xs s q => .ret q))
theorem wVal {Q : List Vl → Cells → Prop} {a : E} (h : Okk (evE P a sl s) fun x s => ∃ xs, itemsV s x = some xs ∧ Q xs s) : Okk (evI P (.val a) sl s) Q :=
  Okk.bind (h.mono fun x s ⟨xs, e, q⟩ => Okk.lift e q)
theorem wRng1 {Q : List Vl → Cells → Prop} {a : E} (h : Okk (evE P a sl s) fun x s => ∃ i, x = .p (.int i) ∧ inRng i = true ∧ Q (rngItems 0 i.toNat) s) : Okk (evI P (.rng1 a) sl s) Q := by
  refine Okk.bind (h.mono fun x s ⟨i, e, e2, q⟩ => ?_)
  subst e
  show Okk (if inRng i = true then O.ok (rngItems 0 i.toNat) s else .bad) Q
  rw [if_pos e2]
  exact .ret q
theorem wZip {Q : List Vl → Cells → Prop} {a b : E} (h : Okk (evE P a sl s) fun x s => Okk (evE P b sl s) fun y s => ∃ xs ys xd yd, itemsV s x = some xs ∧ itemsV s y = some ys ∧ allP xs = some xd ∧ allP ys = some yd ∧ Q ((xd.zip yd).map fun q => .p (.tuple [q.1, q.2])) s) : Okk (evI P (.zip a b) sl s) Q :=
  Okk.bind (h.mono fun x s h => Okk.bind (h.mono fun y s ⟨xs, ys, xd, yd, e1, e2, e3, e4, q⟩ => Okk.bind (Okk.lift e1 (Okk.bind (Okk.lift e2 (Okk.bind (Okk.lift e3 (Okk.bind (Okk.lift e4 (.ret q))))))))))
theorem wNm {Q : Sl → Cells → Prop} {i : Nat} {v : Vl} (h : Q (sl.set i (some v)) s) : Okk (bindT P (.nm i) v sl s) Q := .ret h
theorem wTp {Q : Sl → Cells → Prop} {l : TLs} {v : Vl} {xs : List Vl} (e : seqOf s v = some xs) (h : Okk (bindTL P l xs sl s) Q) : Okk (bindT P (.tp l) v sl s) Q := Okk.bind (Okk.lift e h)
theorem wTnil {Q : Sl → Cells → Prop} (h : Q sl s) : Okk (bindTL P .nil [] sl s) Q := .ret h
theorem wTcons {Q : Sl → Cells → Prop} {t : Tg} {l : TLs} {x : Vl} {xs : List Vl} (h : Okk (bindT P t x sl s) fun sl s => Okk (bindTL P l xs sl s) Q) : Okk (bindTL P (.cons t l) (x :: xs) sl s) Q := Okk.bind h
theorem wSub {Q : Sl → Cells → Prop} {o i : E} {v : Vl} (h : Okk (evE P o sl s) fun x s => Okk (evE P i sl s) fun y s => ∃ n k xs j, x = .ref n ∧ y = .p (.int k) ∧ s[n]? = some (.lst xs) ∧ L2.ixN xs.length k = some j ∧ Q sl (setCell s n (xs.set j v))) : Okk (bindT P (.sub o i) v sl s) Q := by
  refine Okk.bind (h.mono fun x s h => Okk.bind (h.mono fun y s ⟨n, k, xs, j, e1, e2, e3, e4, q⟩ => ?_))
  subst e1 e2
  show Okk (match s[n]? with
    | some (.lst xs) => (lift (L2.ixN xs.length k) s).bind fun j s => .ok sl (setCell s n (xs.set j v))
    | _ => .bad) Q
  rw [e3]
  exact Okk.bind (Okk.lift e4 (.ret q))
theorem wT {Q : Bool → Cells → Prop} {a : E} (h : Okk (evE P a sl s) fun x s => ∃ k, truth s x = some k ∧ Q k s) : Okk (evT P a sl s) Q := Okk.bind (h.mono fun x s ⟨k, e, q⟩ => Okk.lift e q)
variable {Q : Out → Cells → Prop}
theorem wAsg {t : Tg} {e : E} (h : Okk (evE P e sl s) fun v s => Okk (bindT P t v sl s) fun sl s => Q (.nx sl) s) : Okk (evS P (.asg t e) sl s) Q := Okk.bind (h.mono fun v s h => Okk.bind (h.mono fun sl s q => .ret q))
theorem wPar2 {i j : Nat} {a b : E} (h : Okk (evE P a sl s) fun x s => Okk (evE P b sl s) fun y s => Q (.nx ((sl.set i (some x)).set j (some y))) s) : Okk (evS P (.par2 i j a b) sl s) Q := Okk.bind (h.mono fun v s h => Okk.bind (h.mono fun w s q => .ret q))
theorem wExpr {e : E} (h : Okk (evE P e sl s) fun _ s => Q (.nx sl) s) : Okk (evS P (.expr e) sl s) Q := Okk.bind (h.mono fun v s q => .ret q)
theorem wRet {e : E} (h : Okk (evE P e sl s) fun v s => Q (.rt v) s) : Okk (evS P (.ret e) sl s) Q := Okk.bind (h.mono fun v s q => .ret q)
theorem wIfs {c : E} {a b : BL} (h : Okk (evE P c sl s) fun x s => ∃ k, truth s x = some k ∧ Okk (evB P (match k with | true => a | false => b) sl s) Q) : Okk (evS P (.ifs c a b) sl s) Q := by
  refine Okk.bind ((wT h).mono fun k s q => ?_)
  cases k <;> exact q
theorem wFor {t : Tg} {it : I} {b : BL} (h : Okk (evI P it sl s) fun xs s => Okk (forLoop (forTurn P t b) xs sl s) Q) : Okk (evS P (.for t it b) sl s) Q := Okk.bind h
theorem wBnil (h : Q (.nx sl) s) : Okk (evB P .nil sl s) Q := .ret h
def thenB (P : Pg) (b : BL) (Q : Out → Cells → Prop) : Out → Cells → Prop
  | .nx sl => fun s => Okk (evB P b sl s) Q
  | .rt v => Q (.rt v)
  | .bk sl => Q (.bk sl)
  | .ct sl => Q (.ct sl)
theorem wBcons {t : ST} {b : BL} (h : Okk (evS P t sl s) (thenB P b Q)) : Okk (evB P (.cons t b) sl s) Q := by
  refine Okk.bind (h.mono fun o s q => ?_)
  cases o with
  | nx sl => exact q
  | rt v => exact .ret q
  | bk sl => exact .ret q
  | ct sl => exact .ret q
end
/-! ### loops -/
inductive All2 {α β : Type} (R : α → β → Prop) : List α → List β → Prop where
  | nil : All2 R [] []
  | cons {x : α} {y : β} {xs : List α} {ys : List β} (h : R x y) (hs : All2 R xs ys) : All2 R (x :: xs) (y :: ys)
theorem All2.length {α β : Type} {R : α → β → Prop} {xs : List α} {ys : List β} (h : All2 R xs ys) : ys.length = xs.length := by
  induction h with
  | nil => rfl
  | cons _ _ ih => exact congrArg (· + 1) ih
theorem lcLoop_rel {f : Vl → Cells → O (Option PyData)} (I : Cells → Prop) (R : Vl → PyData → Prop) : ∀ {xs : List Vl} {s : Cells}, (∀ x ∈ xs, ∀ s, I s → Okk (f x s) fun o s => ∃ d, o = some d ∧ R x d ∧ I s) → I s →
    Okk (lcLoop f xs s) fun ds s => All2 R xs ds ∧ I s
  | [], s, _, h => .ret ⟨.nil, h⟩
  | x :: r, s, hf, h => by
    refine Okk.bind ((hf x List.mem_cons_self s h).mono fun o s ⟨d, e, hr, hi⟩ => Okk.bind ((lcLoop_rel I R (fun y hy => hf y (List.mem_cons_of_mem _ hy)) hi).mono fun ds s ⟨h1, h2⟩ => ?_))
    subst e
    exact .ret ⟨.cons hr h1, h2⟩
theorem wTurn {P : Pg} {elt : E} {tg : Tg} {c : E} {slw : Sl} {x : Vl} {s : Cells} {Q : Option PyData → Cells → Prop} (h : Okk (bindT P tg x slw s) fun sl s => Okk (evE P c sl s) fun k s => truth s k = some true ∧ Okk (evE P elt sl s) fun y s => ∃ d, y = .p d ∧ Q (some d) s) :
    Okk (lcTurn P elt tg c slw x s) Q := by
  refine Okk.bind (h.mono fun sl s h => Okk.bind (h.mono fun k s ⟨e, h⟩ => Okk.bind (Okk.lift e (Okk.bind (h.mono fun y s ⟨d, e, q⟩ => ?_)))))
  subst e
  exact .ret q
theorem forLoop_inv {f : Vl → Sl → Cells → O Out} (I : Sl → Cells → Prop) : ∀ {xs : List Vl} {sl : Sl} {s : Cells}, (∀ x ∈ xs, ∀ sl s, I sl s → Okk (f x sl s) fun o s => ∃ sl', o = .nx sl' ∧ I sl' s) → I sl s →
    Okk (forLoop f xs sl s) fun o s => ∃ sl', o = .nx sl' ∧ I sl' s
  | [], sl, s, _, h => .ret ⟨sl, rfl, h⟩
  | x :: r, sl, s, hf, h => by
    refine Okk.bind ((hf x List.mem_cons_self sl s h).mono fun o s ⟨sl', e, hi⟩ => ?_)
    subst e
    exact forLoop_inv I (fun y hy => hf y (List.mem_cons_of_mem _ hy)) hi
/-! ### calls -/
section
variable {R : Pr} {d f : Nat} {F : Fn} {vs : List Vl} {s : Cells} {Q : Vl → Cells → Prop}
theorem fill_eq (hd : F.dfl = []) (hl : vs.length = F.np) : vs ++ (F.dfl.drop (F.dfl.length - (F.np - vs.length))).map Vl.p = vs := by
  rw [hd]
  simp
def retQ (Q : Vl → Cells → Prop) : Out → Cells → Prop
  | .rt v => Q v
  | .nx _ => Q (.p .none)
  | _ => fun _ => False
theorem fnEnd_okk {m : O Out} (h : Okk m (retQ Q)) : Okk (fnEnd m) Q := by
  obtain ⟨o, s', rfl, q⟩ := h
  cases o with
  | rt v => exact ⟨v, s', rfl, q⟩
  | nx sl => exact ⟨.p .none, s', rfl, q⟩
  | bk _ => exact q.elim
  | ct _ => exact q.elim
theorem callN (hF : R.fns[f]? = some F) (hd : F.dfl = []) (hp : F.pure = false) (hl : vs.length = F.np) (h : Okk (evB (pgOf R d) F.body (vs.map some ++ List.replicate (F.nl - vs.length) none) s) (retQ Q)) : Okk (callF R (d + 1) f vs s) Q := by
  have e : callF R (d + 1) f vs s = fnEnd (evB (pgOf R d) F.body (vs.map some ++ List.replicate (F.nl - vs.length) none) s) := by
    have hb : (vs.length == F.np) = true := by rw [hl]; exact beq_self_eq_true _
    unfold callF
    rw [hF]
    simp only [fill_eq hd hl, hb, hp, if_true, Bool.false_eq_true, if_false]
    rfl
  rw [e]
  exact fnEnd_okk h
theorem callP {D : PyData → Prop} (hF : R.fns[f]? = some F) (hd : F.dfl = []) (hp : F.pure = true) (hl : vs.length = F.np) (hn : vs.all noRef = true) (h : Okk (evB (pgOf R d) F.body (vs.map some ++ List.replicate (F.nl - vs.length) none) []) (retQ fun v _ => ∃ q, v = .p q ∧ D q))
    (k : ∀ q, D q → Q (.p q) s) : Okk (callF R (d + 1) f vs s) Q := by
  obtain ⟨v, s', e1, q, rfl, hq⟩ := fnEnd_okk h
  have e : callF R (d + 1) f vs s = .ok (.p q) s := by
    have hb : (vs.length == F.np) = true := by rw [hl]; exact beq_self_eq_true _
    have e1 : fnEnd (evB ⟨R.names, R.dics, R.cst, callF R d, R.fuel⟩ F.body (vs.map some ++ List.replicate (F.nl - vs.length) none) []) = .ok (.p q) s' := e1
    unfold callF
    rw [hF]
    simp only [fill_eq hd hl, hb, hp, hn, if_true, e1]
  exact ⟨_, s, e, k q hq⟩
end
end Sh
/-! Sx: calls and cuts of bodies, said so that the elaborator needs no unfolding of calls. -/
set_option linter.all false
set_option autoImplicit false
set_option maxRecDepth 100000
set_option maxHeartbeats 1000000
namespace Sh
open PySem
theorem wCallR {R : Pr} {d f : Nat} {l : L} {sl : Sl} {s : Cells} {Q : Vl → Cells → Prop} (h : Okk (evL (pgOf R d) l sl s) fun vs s => Okk (callF R d f vs s) Q) : Okk (evE (pgOf R d) (.call f l) sl s) Q := Okk.bind h
theorem wCallKR {R : Pr} {d f : Nat} {k : Str} {a : E} {sl : Sl} {s : Cells} {Q : Vl → Cells → Prop} (h : Okk (evE (pgOf R d) a sl s) fun v s => Okk (callF R d f [v] s) Q) : Okk (evE (pgOf R d) (.callK f k a) sl s) Q := Okk.bind h
/-- a body without its last statement -/
def initB : BL → BL
  | .cons t (.cons t2 .nil) => .cons t .nil
  | .cons t b => .cons t (initB b)
  | .nil => .nil
def appB : BL → BL → BL
  | .nil, c => c
  | .cons t b, c => .cons t (appB b c)
theorem app_ev {P : Pg} {c : BL} {Q : Out → Cells → Prop} : ∀ {b : BL} {sl : Sl} {s : Cells} {sl1 : Sl} {s1 : Cells}, evB P b sl s = .ok (.nx sl1) s1 → Okk (evB P c sl1 s1) Q → Okk (evB P (appB b c) sl s) Q
  | .nil, sl, s, sl1, s1, h, q => by
    cases h
    exact q
  | .cons t b, sl, s, sl1, s1, h, q => by
    have h : (evS P t sl s).bind (fun o s => match o with | .nx sl => evB P b sl s | o => .ok o s) = .ok (.nx sl1) s1 := h
    show Okk ((evS P t sl s).bind (fun o s => match o with | .nx sl => evB P (appB b c) sl s | o => .ok o s)) Q
    obtain ⟨o, s2, e, h⟩ := O.bind_ok h
    rw [e]
    cases o with
    | nx sl2 => exact app_ev (b := b) h q
    | rt v => cases h
    | bk v => cases h
    | ct v => cases h
end Sh
set_option linter.all false
set_option autoImplicit false
set_option maxRecDepth 100000
set_option maxHeartbeats 4000000
namespace K95
open PySem Sh
def f0 : Fn := { np := 1, nl := 1, pure := true, body := (.cons (.ret (.bool true (.blt .isinst (.cons (.var 0) (.cons (.tyc "int" "int") .nil))) (.one (.not (.blt .isinst (.cons (.var 0) (.cons (.tyc "bool" "bool") .nil))))))) .nil) }
def f1 : Fn := { np := 3, nl := 3, pure := true, body := (.cons (.ret (.bool true (.call 0 (.cons (.var 0) .nil)) (.one (.chain .le .le (.var 1) (.var 0) (.var 2))))) .nil) }
def f2 : Fn := { np := 2, nl := 3, pure := true, body := (.cons (.asg (.nm 2) (.blt .gcd (.cons (.var 0) (.cons (.var 1) .nil)))) (.cons (.ifs (.cmp .lt (.var 1) (.int 0)) (.cons (.asg (.nm 2) (.bin .sub (.int 0) (.var 2))) .nil) .nil) (.cons (.ret (.tup (.cons (.bin .fdiv (.var 0) (.var 2)) (.cons (.bin .fdiv (.var 1) (.var 2)) .nil)))) .nil))) }
def f3 : Fn := { np := 2, nl := 2, pure := true, body := (.cons (.ret (.cmp .lt (.bin .mul (.ix (.var 0) (.int 0)) (.ix (.var 1) (.int 1))) (.bin .mul (.ix (.var 1) (.int 0)) (.ix (.var 0) (.int 1))))) .nil) }
def f4 : Fn := { np := 2, nl := 2, pure := true, body := (.cons (.ret (.call 2 (.cons (.bin .add (.bin .mul (.ix (.var 0) (.int 0)) (.ix (.var 1) (.int 1))) (.bin .mul (.ix (.var 1) (.int 0)) (.ix (.var 0) (.int 1)))) (.cons (.bin .mul (.ix (.var 0) (.int 1)) (.ix (.var 1) (.int 1))) .nil)))) .nil) }
def f5 : Fn := { np := 1, nl := 1, pure := true, body := (.cons (.ifs (.bool false (.not (.blt .isinst (.cons (.var 0) (.cons (.tyc "tuple" "tuple") .nil)))) (.bool false (.cmp .ne (.blt .len (.cons (.var 0) .nil)) (.int 2)) (.bool false (.not (.call 0 (.cons (.ix (.var 0) (.int 0)) .nil))) (.one (.not (.call 0 (.cons (.ix (.var 0) (.int 1)) .nil))))))) (.cons (.ret (.bl false)) .nil) .nil) (.cons (.ret (.bool true (.cmp .ge (.ix (.var 0) (.int 1)) (.int 1)) (.one (.cmp .eq (.blt .gcd (.cons (.ix (.var 0) (.int 0)) (.cons (.ix (.var 0) (.int 1)) .nil))) (.int 1))))) .nil)) }
def f6 : Fn := { np := 1, nl := 1, pure := true, body := (.cons (.ret (.bool true (.call 5 (.cons (.var 0) .nil)) (.bool true (.cmp .lt (.blt .abs (.cons (.ix (.var 0) (.int 0)) .nil)) (.glo "MOST_SHORT")) (.one (.cmp .le (.ix (.var 0) (.int 1)) (.glo "MOST_BELOW")))))) .nil) }
def f7 : Fn := { np := 1, nl := 1, pure := true, body := (.cons (.ifs (.bool false (.not (.blt .isinst (.cons (.var 0) (.cons (.tyc "tuple" "tuple") .nil)))) (.bool false (.cmp .ne (.blt .len (.cons (.var 0) .nil)) (.int 2)) (.bool false (.not (.call 5 (.cons (.ix (.var 0) (.int 0)) .nil))) (.one (.not (.call 5 (.cons (.ix (.var 0) (.int 1)) .nil))))))) (.cons (.ret (.bl false)) .nil) .nil) (.cons (.ret (.not (.call 3 (.cons (.ix (.var 0) (.int 1)) (.cons (.ix (.var 0) (.int 0)) .nil))))) .nil)) }
def f8 : Fn := { np := 1, nl := 2, pure := true, body := (.cons (.ifs (.bool false (.cmp .eq (.var 0) (.str "")) (.bool false (.not (.blt .all (.cons (.lc (.cmp .isin (.var 1) (.glo "FIGURES_plaintexts")) (.nm 1) (.val (.var 0)) (.bl true) [("sign", 1)]) .nil))) (.one (.bool true (.cmp .eq (.ix (.var 0) (.int 0)) (.str "0")) (.one (.cmp .ne (.var 0) (.str "0"))))))) (.cons (.ret .non) .nil) .nil) (.cons (.ret (.blt .intOf (.cons (.var 0) .nil))) .nil)) }
def f9 : Fn := { np := 1, nl := 6, pure := true, body := (.cons (.asg (.nm 1) (.cmp .eq (.sl (.var 0) .non (.int 1)) (.str "-"))) (.cons (.asg (.nm 2) (.mth .split (.sl (.var 0) (.blt .intOf (.cons (.var 1) .nil)) .non) (.cons (.str "/") .nil))) (.cons (.asg (.nm 3) (.lc (.call 8 (.cons (.var 5) .nil)) (.nm 5) (.val (.var 2)) (.bl true) [("part", 5)])) (.cons (.ifs (.bool false (.cmp .isin .non (.var 3)) (.bool false (.cmp .gt (.blt .len (.cons (.var 3) .nil)) (.int 2)) (.one (.bool true (.var 1) (.one (.cmp .eq (.ix (.var 3) (.int 0)) (.int 0))))))) (.cons (.ret .non) .nil) .nil) (.cons (.asg (.nm 4) (.ife (.var 1) (.bin .sub (.int 0) (.ix (.var 3) (.int 0))) (.ix (.var 3) (.int 0)))) (.cons (.ifs (.cmp .eq (.blt .len (.cons (.var 3) .nil)) (.int 1)) (.cons (.ret (.tup (.cons (.var 4) (.cons (.int 1) .nil)))) .nil) .nil) (.cons (.ret (.ife (.bool true (.cmp .gt (.ix (.var 3) (.int 1)) (.int 1)) (.one (.cmp .eq (.blt .gcd (.cons (.var 4) (.cons (.ix (.var 3) (.int 1)) .nil))) (.int 1)))) (.tup (.cons (.var 4) (.cons (.ix (.var 3) (.int 1)) .nil))) .non)) .nil))))))) }
def f10 : Fn := { np := 1, nl := 3, pure := true, body := (.cons (.asg (.nm 1) (.lc (.call 9 (.cons (.var 2) .nil)) (.nm 2) (.val (.mth .split (.var 0) (.cons (.glo "BETWEEN") .nil))) (.bl true) [("part", 2)])) (.cons (.ifs (.bool false (.cmp .ne (.blt .len (.cons (.var 1) .nil)) (.int 2)) (.bool false (.cmp .isin .non (.var 1)) (.one (.call 3 (.cons (.ix (.var 1) (.int 1)) (.cons (.ix (.var 1) (.int 0)) .nil)))))) (.cons (.ret .non) .nil) .nil) (.cons (.ret (.tup (.cons (.ix (.var 1) (.int 0)) (.cons (.ix (.var 1) (.int 1)) .nil)))) .nil))) }
def f11 : Fn := { np := 1, nl := 1, pure := true, body := (.cons (.ret (.bool true (.call 7 (.cons (.var 0) .nil)) (.bool true (.call 6 (.cons (.ix (.var 0) (.int 0)) .nil)) (.one (.call 6 (.cons (.ix (.var 0) (.int 1)) .nil)))))) .nil) }
def f12 : Fn := { np := 1, nl := 2, pure := true, body := (.cons (.ifs (.bool false (.not (.blt .isinst (.cons (.var 0) (.cons (.tyc "tuple" "tuple") .nil)))) (.one (.not (.chain .le .le (.int 1) (.blt .len (.cons (.var 0) .nil)) (.glo "MOST_GEARS"))))) (.cons (.ret (.bl false)) .nil) .nil) (.cons (.ret (.blt .all (.cons (.lc (.call 11 (.cons (.var 1) .nil)) (.nm 1) (.val (.var 0)) (.bl true) [("one", 1)]) .nil))) .nil)) }
def f13 : Fn := { np := 1, nl := 1, pure := true, body := (.cons (.ifs (.bool false (.not (.call 6 (.cons (.var 0) .nil))) (.one (.cmp .gt (.ix (.var 0) (.int 1)) (.glo "FACTOR_UNDER")))) (.cons (.ret (.bl false)) .nil) .nil) (.cons (.ret (.bool true (.not (.call 3 (.cons (.var 0) (.cons (.glo "NOUGHT") .nil)))) (.one (.not (.call 3 (.cons (.glo "GREATEST_FACTOR") (.cons (.var 0) .nil))))))) .nil)) }
def f14 : Fn := { np := 3, nl := 3, pure := true, body := (.cons (.ifs (.bool false (.not (.blt .isinst (.cons (.var 2) (.cons (.tyc "tuple" "tuple") .nil)))) (.one (.cmp .ne (.blt .len (.cons (.var 2) .nil)) (.int 5)))) (.cons (.ret (.bl false)) .nil) .nil) (.cons (.ifs (.bool false (.not (.call 1 (.cons (.ix (.var 2) (.int 0)) (.cons (.int 0) (.cons (.bin .sub (.var 1) (.int 1)) .nil))))) (.one (.not (.call 1 (.cons (.ix (.var 2) (.int 1)) (.cons (.int 0) (.cons (.bin .sub (.var 0) (.int 1)) .nil))))))) (.cons (.ret (.bl false)) .nil) .nil) (.cons (.ret (.bool true (.call 1 (.cons (.ix (.var 2) (.int 2)) (.cons (.int 0) (.cons (.bin .sub (.var 1) (.int 1)) .nil)))) (.bool true (.call 13 (.cons (.ix (.var 2) (.int 3)) .nil)) (.one (.call 11 (.cons (.ix (.var 2) (.int 4)) .nil)))))) .nil))) }
def f15 : Fn := { np := 3, nl := 7, pure := true, body := (.cons (.ifs (.bool false (.not (.blt .isinst (.cons (.var 2) (.cons (.tyc "tuple" "tuple") .nil)))) (.one (.not (.chain .le .le (.int 1) (.blt .len (.cons (.var 2) .nil)) (.glo "MOST_OPTIONS"))))) (.cons (.ret (.bl false)) .nil) .nil) (.cons (.ifs (.bool false (.not (.blt .all (.cons (.lc (.call 14 (.cons (.var 0) (.cons (.var 1) (.cons (.var 6) .nil)))) (.nm 6) (.val (.var 2)) (.bl true) [("one", 6)]) .nil))) (.one (.cmp .ne (.blt .lenset (.cons (.var 2) .nil)) (.blt .len (.cons (.var 2) .nil))))) (.cons (.ret (.bl false)) .nil) .nil) (.cons (.asg (.nm 3) (.lc (.sl (.var 6) .non (.int 2)) (.nm 6) (.val (.var 2)) (.bl true) [("one", 6)])) (.cons (.ifs (.cmp .ne (.var 3) (.blt .sorted (.cons (.var 3) .nil))) (.cons (.ret (.bl false)) .nil) .nil) (.cons (.for (.nm 4) (.rng1 (.var 1)) (.cons (.for (.nm 5) (.rng1 (.var 0)) (.cons (.ifs (.not (.chain .le .le (.int 1) (.mth .count (.var 3) (.cons (.tup (.cons (.var 4) (.cons (.var 5) .nil))) .nil)) (.glo "MOST_OF_ONE"))) (.cons (.ret (.bl false)) .nil) .nil) .nil)) .nil)) (.cons (.ret (.bl true)) .nil)))))) }
def f16 : Fn := { np := 1, nl := 2, pure := true, body := (.cons (.ifs (.bool false (.cmp .ne (.blt .len (.cons (.var 0) .nil)) (.int 4)) (.one (.not (.blt .all (.cons (.lc (.call 6 (.cons (.var 1) .nil)) (.nm 1) (.val (.sl (.var 0) (.int 1) .non)) (.bl true) [("one", 1)]) .nil))))) (.cons (.ret (.bl false)) .nil) .nil) (.cons (.ret (.bool true (.call 3 (.cons (.glo "NOUGHT") (.cons (.ix (.var 0) (.int 2)) .nil))) (.one (.not (.call 3 (.cons (.call 4 (.cons (.ix (.var 0) (.int 3)) (.cons (.ix (.var 0) (.int 3)) .nil))) (.cons (.ix (.var 0) (.int 2)) .nil))))))) .nil)) }
def f17 : Fn := { np := 1, nl := 3, pure := true, body := (.cons (.ifs (.bool false (.cmp .ne (.blt .len (.cons (.var 0) .nil)) (.int 3)) (.bool false (.not (.blt .isinst (.cons (.ix (.var 0) (.int 1)) (.cons (.tyc "tuple" "tuple") .nil)))) (.one (.not (.chain .le .le (.int 1) (.blt .len (.cons (.ix (.var 0) (.int 1)) .nil)) (.glo "MOST_MARKS")))))) (.cons (.ret (.bl false)) .nil) .nil) (.cons (.ifs (.bool false (.not (.blt .all (.cons (.lc (.call 6 (.cons (.var 1) .nil)) (.nm 1) (.val (.ix (.var 0) (.int 1))) (.bl true) [("one", 1)]) .nil))) (.bool false (.not (.call 6 (.cons (.ix (.var 0) (.int 2)) .nil))) (.one (.call 3 (.cons (.ix (.var 0) (.int 2)) (.cons (.glo "NOUGHT") .nil)))))) (.cons (.ret (.bl false)) .nil) .nil) (.cons (.ret (.blt .all (.cons (.lc (.call 3 (.cons (.var 1) (.cons (.var 2) .nil))) (.tp (.cons (.nm 1) (.cons (.nm 2) .nil))) (.zip (.ix (.var 0) (.int 1)) (.sl (.ix (.var 0) (.int 1)) (.int 1) .non)) (.bl true) [("one", 1), ("other", 2)]) .nil))) .nil))) }
def f18 : Fn := { np := 1, nl := 1, pure := true, body := (.cons (.ifs (.bool false (.not (.blt .isinst (.cons (.var 0) (.cons (.tyc "tuple" "tuple") .nil)))) (.bool false (.cmp .eq (.var 0) (.tup .nil)) (.one (.not (.blt .isinst (.cons (.ix (.var 0) (.int 0)) (.cons (.tyc "str" "str") .nil))))))) (.cons (.ret (.bl false)) .nil) .nil) (.cons (.ifs (.cmp .eq (.ix (.var 0) (.int 0)) (.glo "GRID")) (.cons (.ret (.call 16 (.cons (.var 0) .nil))) .nil) .nil) (.cons (.ret (.bool true (.cmp .eq (.ix (.var 0) (.int 0)) (.glo "MARKS")) (.one (.call 17 (.cons (.var 0) .nil))))) .nil))) }
def f19 : Fn := { np := 1, nl := 2, pure := true, body := (.cons (.ret (.bool true (.blt .isinst (.cons (.var 0) (.cons (.tyc "tuple" "tuple") .nil))) (.bool true (.cmp .le (.blt .len (.cons (.var 0) .nil)) (.glo "MOST_SENSORS")) (.one (.blt .all (.cons (.lc (.call 18 (.cons (.var 1) .nil)) (.nm 1) (.val (.var 0)) (.bl true) [("one", 1)]) .nil)))))) .nil) }
def f20 : Fn := { np := 2, nl := 4, pure := true, body := (.cons (.ifs (.bool false (.not (.blt .isinst (.cons (.var 1) (.cons (.tyc "tuple" "tuple") .nil)))) (.one (.not (.blt .all (.cons (.lc (.call 1 (.cons (.var 2) (.cons (.int 0) (.cons (.bin .sub (.var 0) (.int 1)) .nil)))) (.nm 2) (.val (.var 1)) (.bl true) [("one", 2)]) .nil))))) (.cons (.ret (.bl false)) .nil) .nil) (.cons (.ret (.blt .all (.cons (.lc (.cmp .lt (.var 2) (.var 3)) (.tp (.cons (.nm 2) (.cons (.nm 3) .nil))) (.zip (.var 1) (.sl (.var 1) (.int 1) .non)) (.bl true) [("one", 2), ("other", 3)]) .nil))) .nil)) }
def f21 : Fn := { np := 2, nl := 3, pure := true, body := (.cons (.ifs (.bool false (.not (.blt .isinst (.cons (.var 1) (.cons (.tyc "tuple" "tuple") .nil)))) (.one (.not (.chain .le .le (.int 1) (.blt .len (.cons (.var 1) .nil)) (.glo "MOST_DUTIES"))))) (.cons (.ret (.bl false)) .nil) .nil) (.cons (.ret (.blt .all (.cons (.lc (.call 20 (.cons (.var 0) (.cons (.var 2) .nil))) (.nm 2) (.val (.var 1)) (.bl true) [("one", 2)]) .nil))) .nil)) }
def f22 : Fn := { np := 1, nl := 7, pure := true, body := (.cons (.ifs (.bool false (.not (.blt .isinst (.cons (.var 0) (.cons (.tyc "tuple" "tuple") .nil)))) (.bool false (.cmp .ne (.blt .len (.cons (.var 0) .nil)) (.int 6)) (.bool false (.not (.blt .isinst (.cons (.ix (.var 0) (.int 0)) (.cons (.tyc "str" "str") .nil)))) (.one (.cmp .ne (.ix (.var 0) (.int 0)) (.str "plant")))))) (.cons (.ret (.str "form")) .nil) .nil) (.cons (.asg (.tp (.cons (.nm 1) (.cons (.nm 2) (.cons (.nm 3) (.cons (.nm 4) (.cons (.nm 5) (.cons (.nm 6) .nil))))))) (.var 0)) (.cons (.ifs (.not (.call 1 (.cons (.var 2) (.cons (.int 1) (.cons (.glo "MOST_LETTERS") .nil))))) (.cons (.ret (.str "letters")) .nil) .nil) (.cons (.ifs (.not (.call 12 (.cons (.var 3) .nil))) (.cons (.ret (.str "limits")) .nil) .nil) (.cons (.ifs (.not (.call 15 (.cons (.var 2) (.cons (.blt .len (.cons (.var 3) .nil)) (.cons (.var 4) .nil))))) (.cons (.ret (.str "options")) .nil) .nil) (.cons (.ifs (.not (.call 19 (.cons (.var 5) .nil))) (.cons (.ret (.str "sensors")) .nil) .nil) (.cons (.ret (.ife (.call 21 (.cons (.blt .len (.cons (.var 5) .nil)) (.cons (.var 6) .nil))) .non (.str "duties"))) .nil))))))) }
def f23 : Fn := { np := 3, nl := 3, pure := true, body := (.cons (.ifs (.cmp .isin (.var 1) (.tup (.cons (.glo "LEAST") (.cons (.glo "MOST") .nil)))) (.cons (.ret (.call 5 (.cons (.var 2) .nil))) .nil) .nil) (.cons (.ifs (.cmp .isin (.var 1) (.tup (.cons (.glo "SURELY") (.cons (.glo "PERHAPS") .nil)))) (.cons (.ret (.call 7 (.cons (.var 2) .nil))) .nil) .nil) (.cons (.ifs (.cmp .eq (.var 1) (.glo "GEAR")) (.cons (.ret (.call 1 (.cons (.var 2) (.cons (.int 0) (.cons (.bin .sub (.blt .len (.cons (.ix (.var 0) (.int 2)) .nil)) (.int 1)) .nil))))) .nil) .nil) (.cons (.ifs (.cmp .eq (.var 1) (.glo "LETTER")) (.cons (.ret (.call 1 (.cons (.var 2) (.cons (.int 0) (.cons (.bin .sub (.ix (.var 0) (.int 1)) (.int 1)) .nil))))) .nil) .nil) (.cons (.ret (.bool true (.cmp .isin (.var 1) (.tup (.cons (.glo "FROM") (.cons (.glo "BEFORE") .nil)))) (.one (.call 1 (.cons (.var 2) (.cons (.int 1) (.cons (.glo "MOST_MOMENT") .nil))))))) .nil))))) }
def f24 : Fn := { np := 3, nl := 4, pure := true, body := (.cons (.ifs (.bool false (.cmp .eq (.var 2) (.int 0)) (.bool false (.not (.blt .isinst (.cons (.var 1) (.cons (.tyc "tuple" "tuple") .nil)))) (.bool false (.cmp .lt (.blt .len (.cons (.var 1) .nil)) (.int 2)) (.one (.not (.blt .isinst (.cons (.ix (.var 1) (.int 0)) (.cons (.tyc "str" "str") .nil)))))))) (.cons (.ret (.bl false)) .nil) .nil) (.cons (.ifs (.cmp .isin (.ix (.var 1) (.int 0)) (.tup (.cons (.glo "BOTH") (.cons (.glo "EITHER") .nil)))) (.cons (.ret (.bool true (.cmp .eq (.blt .len (.cons (.var 1) .nil)) (.int 3)) (.one (.blt .all (.cons (.lc (.call 24 (.cons (.var 0) (.cons (.var 3) (.cons (.bin .sub (.var 2) (.int 1)) .nil)))) (.nm 3) (.val (.sl (.var 1) (.int 1) .non)) (.bl true) [("one", 3)]) .nil))))) .nil) .nil) (.cons (.ifs (.cmp .ne (.blt .len (.cons (.var 1) .nil)) (.int 2)) (.cons (.ret (.bl false)) .nil) .nil) (.cons (.ret (.ife (.cmp .eq (.ix (.var 1) (.int 0)) (.glo "NOT")) (.call 24 (.cons (.var 0) (.cons (.ix (.var 1) (.int 1)) (.cons (.bin .sub (.var 2) (.int 1)) .nil)))) (.call 23 (.cons (.var 0) (.cons (.ix (.var 1) (.int 0)) (.cons (.ix (.var 1) (.int 1)) .nil)))))) .nil)))) }
def f25 : Fn := { np := 1, nl := 1, pure := true, body := (.cons (.ret (.ife (.cmp .isin (.ix (.var 0) (.int 0)) (.tup (.cons (.glo "NOT") (.cons (.glo "BOTH") (.cons (.glo "EITHER") .nil))))) (.sl (.var 0) (.int 1) .non) (.tup .nil))) .nil) }
def f26 : Fn := { np := 1, nl := 2, pure := true, body := (.cons (.ret (.bin .add (.int 1) (.blt .sum (.cons (.lc (.call 26 (.cons (.var 1) .nil)) (.nm 1) (.val (.call 25 (.cons (.var 0) .nil))) (.bl true) [("one", 1)]) .nil)))) .nil) }
def f27 : Fn := { np := 2, nl := 2, pure := true, body := (.cons (.ret (.bool true (.call 24 (.cons (.var 0) (.cons (.var 1) (.cons (.glo "MOST_DEEP") .nil)))) (.one (.cmp .le (.call 26 (.cons (.var 1) .nil)) (.glo "MOST_PARTS"))))) .nil) }
def f28 : Fn := { np := 2, nl := 2, pure := true, body := (.cons (.ifs (.bool false (.not (.blt .isinst (.cons (.var 1) (.cons (.tyc "tuple" "tuple") .nil)))) (.one (.cmp .ne (.blt .len (.cons (.var 1) .nil)) (.int 2)))) (.cons (.ret (.bl false)) .nil) .nil) (.cons (.ret (.bool true (.call 27 (.cons (.var 0) (.cons (.ix (.var 1) (.int 0)) .nil))) (.one (.call 1 (.cons (.ix (.var 1) (.int 1)) (.cons (.int 0) (.cons (.glo "MOST_PLACE") .nil))))))) .nil)) }
def f29 : Fn := { np := 2, nl := 3, pure := true, body := (.cons (.ifs (.bool false (.not (.blt .isinst (.cons (.var 1) (.cons (.tyc "tuple" "tuple") .nil)))) (.bool false (.cmp .ne (.blt .len (.cons (.var 1) .nil)) (.int 3)) (.bool false (.not (.blt .isinst (.cons (.ix (.var 1) (.int 0)) (.cons (.tyc "str" "str") .nil)))) (.one (.cmp .ne (.ix (.var 1) (.int 0)) (.glo "ORDERS_orders")))))) (.cons (.ret (.bl false)) .nil) .nil) (.cons (.ifs (.bool false (.not (.blt .isinst (.cons (.ix (.var 1) (.int 1)) (.cons (.tyc "tuple" "tuple") .nil)))) (.bool false (.cmp .gt (.blt .len (.cons (.ix (.var 1) (.int 1)) .nil)) (.glo "MOST_ROWS")) (.one (.not (.call 1 (.cons (.ix (.var 1) (.int 2)) (.cons (.int 0) (.cons (.glo "MOST_PLACE") .nil)))))))) (.cons (.ret (.bl false)) .nil) .nil) (.cons (.ret (.blt .all (.cons (.lc (.call 28 (.cons (.var 0) (.cons (.var 2) .nil))) (.nm 2) (.val (.ix (.var 1) (.int 1))) (.bl true) [("row", 2)]) .nil))) .nil))) }
def f30 : Fn := { np := 4, nl := 5, pure := true, body := (.cons (.asg (.nm 4) (.var 1)) (.cons (.whl (.bool true (.cmp .lt (.var 4) (.blt .len (.cons (.var 0) .nil))) (.bool true (.cmp .isin (.ix (.var 0) (.var 4)) (.var 2)) (.one (.cmp .lt (.bin .sub (.var 4) (.var 1)) (.var 3))))) (.cons (.asg (.nm 4) (.bin .add (.var 4) (.int 1))) .nil)) (.cons (.ret (.var 4)) .nil))) }
def f31 : Fn := { np := 2, nl := 4, pure := true, body := (.cons (.par2 2 3 (.ix (.var 0) (.var 1)) (.sl (.var 0) (.bin .add (.var 1) (.int 1)) (.bin .add (.var 1) (.int 2)))) (.cons (.ifs (.bool false (.cmp .eq (.var 2) (.str "0")) (.one (.bool true (.cmp .eq (.var 2) (.str "-")) (.one (.bool false (.cmp .isin (.var 3) (.tup (.cons (.str "") (.cons (.str "0") .nil)))) (.one (.cmp .nin (.var 3) (.glo "FIGURES_written")))))))) (.cons (.ret (.bin .add (.var 1) (.int 1))) .nil) .nil) (.cons (.ifs (.bool false (.cmp .eq (.var 2) (.str "-")) (.one (.cmp .isin (.var 2) (.glo "FIGURES_written")))) (.cons (.ret (.call 30 (.cons (.var 0) (.cons (.bin .add (.var 1) (.int 1)) (.cons (.glo "FIGURES_written") (.cons (.blt .len (.cons (.var 0) .nil)) .nil)))))) .nil) .nil) (.cons (.ret (.call 30 (.cons (.var 0) (.cons (.var 1) (.cons (.glo "SMALL") (.cons (.glo "MOST_WORD") .nil)))))) .nil)))) }
def f32 : Fn := { np := 1, nl := 3, pure := true, body := (.cons (.ifs (.cmp .eq (.var 0) (.str "-")) (.cons (.ret .non) .nil) .nil) (.cons (.ifs (.cmp .isin (.ix (.var 0) (.int 0)) (.glo "SMALL")) (.cons (.ret (.var 0)) .nil) .nil) (.cons (.asg (.nm 1) (.int 0)) (.cons (.for (.nm 2) (.val (.mth .lstrip (.var 0) (.cons (.str "-") .nil))) (.cons (.asg (.nm 1) (.bin .add (.bin .mul (.int 10) (.var 1)) (.mth .index (.glo "FIGURES_written") (.cons (.var 2) .nil)))) .nil)) (.cons (.ret (.ife (.cmp .eq (.ix (.var 0) (.int 0)) (.str "-")) (.bin .sub (.int 0) (.var 1)) (.var 1))) .nil))))) }
def f33 : Fn := { np := 1, nl := 7, pure := true, body := (.cons (.par3 1 2 3 (.cell (.cons (.cell .nil) .nil)) (.int 0) (.bl true)) (.cons (.whl (.cmp .lt (.var 2) (.blt .len (.cons (.var 0) .nil))) (.cons (.par2 4 5 (.ix (.var 0) (.var 2)) (.ix (.var 1) (.neg (.int 1)))) (.cons (.asg (.nm 6) (.ife (.var 3) (.call 31 (.cons (.var 0) (.cons (.var 2) .nil))) (.var 2))) (.cons (.ifs (.bool true (.var 3) (.one (.cmp .eq (.var 4) (.str "(")))) (.cons (.expr (.mth .append (.var 1) (.cons (.cell .nil) .nil))) (.cons (.asg (.nm 2) (.bin .add (.var 2) (.int 1))) .nil)) (.cons (.ifs (.cmp .gt (.var 6) (.var 2)) (.cons (.expr (.mth .append (.var 5) (.cons (.call 32 (.cons (.sl (.var 0) (.var 2) (.var 6)) .nil)) .nil))) (.cons (.par2 2 3 (.var 6) (.bl false)) .nil)) (.cons (.ifs (.bool true (.cmp .gt (.blt .len (.cons (.var 1) .nil)) (.int 1)) (.bool true (.cmp .eq (.var 4) (.str ")")) (.one (.bool false (.not (.var 3)) (.one (.cmp .eq (.var 5) (.lst .nil))))))) (.cons (.expr (.mth .pop (.var 1) .nil)) (.cons (.expr (.mth .append (.ix (.var 1) (.neg (.int 1))) (.cons (.blt .tuple (.cons (.var 5) .nil)) .nil))) (.cons (.par2 2 3 (.bin .add (.var 2) (.int 1)) (.bl false)) .nil))) (.cons (.ifs (.bool true (.cmp .gt (.blt .len (.cons (.var 1) .nil)) (.int 1)) (.bool true (.cmp .eq (.var 4) (.str " ")) (.one (.not (.var 3))))) (.cons (.par2 2 3 (.bin .add (.var 2) (.int 1)) (.bl true)) .nil) (.cons (.ret (.tup (.cons (.bl false) (.cons (.var 2) .nil)))) .nil)) .nil)) .nil)) .nil)) .nil)))) (.cons (.ifs (.bool false (.cmp .gt (.blt .len (.cons (.var 1) .nil)) (.int 1)) (.one (.cmp .eq (.ix (.var 1) (.int 0)) (.lst .nil)))) (.cons (.ret (.tup (.cons (.bl false) (.cons (.blt .len (.cons (.var 0) .nil)) .nil)))) .nil) .nil) (.cons (.ret (.tup (.cons (.bl true) (.cons (.ix (.ix (.var 1) (.int 0)) (.int 0)) .nil)))) .nil)))) }
def f34 : Fn := { np := 1, nl := 2, pure := true, body := (.cons (.ifs (.bool false (.not (.blt .isinst (.cons (.var 0) (.cons (.tyc "tuple" "tuple") .nil)))) (.one (.not (.chain .le .le (.int 1) (.blt .len (.cons (.var 0) .nil)) (.glo "MOST_GEARS"))))) (.cons (.ret (.bl false)) .nil) .nil) (.cons (.ret (.blt .all (.cons (.lc (.bool false (.cmp .is (.var 1) .non) (.one (.call 7 (.cons (.var 1) .nil)))) (.nm 1) (.val (.var 0)) (.bl true) [("one", 1)]) .nil))) .nil)) }
def f35 : Fn := { np := 4, nl := 6, pure := false, body := (.cons (.ifs (.bool false (.not (.blt .isinst (.cons (.var 3) (.cons (.tyc "tuple" "tuple") .nil)))) (.bool false (.cmp .eq (.var 3) (.tup .nil)) (.one (.not (.blt .isinst (.cons (.ix (.var 3) (.int 0)) (.cons (.tyc "str" "str") .nil))))))) (.cons (.ret (.bl false)) .nil) .nil) (.cons (.par2 4 5 (.ix (.var 3) (.int 0)) (.sl (.var 3) (.int 1) .non)) (.cons (.ifs (.bool true (.cmp .eq (.var 4) (.glo "MADE")) (.one (.cmp .eq (.blt .len (.cons (.var 5) .nil)) (.int 1)))) (.cons (.ret (.call 1 (.cons (.ix (.var 5) (.int 0)) (.cons (.int 0) (.cons (.bin .sub (.glo "MOST_OPTIONS") (.int 1)) .nil))))) .nil) .nil) (.cons (.ifs (.bool true (.cmp .eq (.var 4) (.glo "READ")) (.one (.cmp .eq (.blt .len (.cons (.var 5) .nil)) (.int 3)))) (.cons (.ifs (.bool false (.not (.call 1 (.cons (.ix (.var 5) (.int 0)) (.cons (.int 0) (.cons (.var 2) .nil))))) (.one (.not (.call 1 (.cons (.ix (.var 5) (.int 1)) (.cons (.int 0) (.cons (.bin .sub (.glo "MOST_SENSORS") (.int 1)) .nil))))))) (.cons (.ret (.bl false)) .nil) .nil) (.cons (.ret (.call 1 (.cons (.ix (.var 5) (.int 2)) (.cons (.bin .sub (.int 0) (.glo "GREATEST_READING")) (.cons (.glo "GREATEST_READING") .nil))))) .nil)) .nil) (.cons (.ifs (.bool false (.cmp .ne (.var 4) (.glo "VOID")) (.bool false (.cmp .ne (.blt .len (.cons (.var 5) .nil)) (.int 1)) (.one (.not (.call 1 (.cons (.ix (.var 5) (.int 0)) (.cons (.int 0) (.cons (.bin .sub (.blt .len (.cons (.var 0) .nil)) (.int 1)) .nil)))))))) (.cons (.ret (.bl false)) .nil) .nil) (.cons (.ret (.bool true (.cmp .eq (.ix (.ix (.var 0) (.ix (.var 5) (.int 0))) (.int 0)) (.glo "READ")) (.one (.cmp .nin (.ix (.var 5) (.int 0)) (.var 1))))) .nil)))))) }
def f36 : Fn := { np := 1, nl := 5, pure := true, body := (.cons (.ifs (.bool false (.not (.blt .isinst (.cons (.var 0) (.cons (.tyc "tuple" "tuple") .nil)))) (.bool false (.cmp .ne (.blt .len (.cons (.var 0) .nil)) (.int 4)) (.bool false (.not (.blt .isinst (.cons (.ix (.var 0) (.int 0)) (.cons (.tyc "str" "str") .nil)))) (.one (.cmp .ne (.ix (.var 0) (.int 0)) (.glo "LOG_logs")))))) (.cons (.ret (.bl false)) .nil) .nil) (.cons (.ifs (.bool false (.not (.call 1 (.cons (.ix (.var 0) (.int 1)) (.cons (.int 0) (.cons (.bin .sub (.glo "MOST_GEARS") (.int 1)) .nil))))) (.one (.not (.call 11 (.cons (.ix (.var 0) (.int 2)) .nil))))) (.cons (.ret (.bl false)) .nil) .nil) (.cons (.ifs (.bool false (.not (.blt .isinst (.cons (.ix (.var 0) (.int 3)) (.cons (.tyc "tuple" "tuple") .nil)))) (.one (.cmp .gt (.blt .len (.cons (.ix (.var 0) (.int 3)) .nil)) (.glo "MOST_EVENTS")))) (.cons (.ret (.bl false)) .nil) .nil) (.cons (.par3 1 2 3 (.cell .nil) (.lst .nil) (.int 0)) (.cons (.for (.nm 4) (.val (.ix (.var 0) (.int 3))) (.cons (.ifs (.not (.call 35 (.cons (.var 1) (.cons (.var 2) (.cons (.var 3) (.cons (.var 4) .nil)))))) (.cons (.ret (.bl false)) .nil) .nil) (.cons (.expr (.mth .append (.var 1) (.cons (.var 4) .nil))) (.cons (.asg (.nm 3) (.bin .add (.var 3) (.blt .intOf (.cons (.cmp .eq (.ix (.var 4) (.int 0)) (.glo "MADE")) .nil)))) (.cons (.asg (.nm 2) (.bin .add (.var 2) (.ife (.cmp .eq (.ix (.var 4) (.int 0)) (.glo "VOID")) (.lst (.cons (.ix (.var 4) (.int 1)) .nil)) (.lst .nil)))) .nil))))) (.cons (.ret (.cmp .le (.var 3) (.glo "MOST_MADE"))) .nil)))))) }
def f37 : Fn := { np := 0, nl := 3, pure := true, body := (.cons (.asg (.nm 0) (.cell .nil)) (.cons (.for (.nm 1) (.rng1 (.int 6)) (.cons (.expr (.mth .extend (.var 0) (.cons (.lc (.tup (.cons (.var 1) (.cons (.var 2) (.cons (.int 0) (.cons (.tup (.cons (.int 1) (.cons (.int 1) .nil))) (.cons (.tup (.cons (.tup (.cons (.int 0) (.cons (.int 1) .nil))) (.cons (.tup (.cons (.int 0) (.cons (.int 1) .nil))) .nil))) .nil)))))) (.nm 2) (.rng1 (.int 3)) (.bl true) [("letter", 2)]) .nil))) .nil)) (.cons (.ret (.tup (.cons (.str "plant") (.cons (.int 3) (.cons (.bin .mul (.tup (.cons (.tup (.cons (.tup (.cons (.int 0) (.cons (.int 1) .nil))) (.cons (.tup (.cons (.int 1) (.cons (.int 1) .nil))) .nil))) .nil)) (.int 6)) (.cons (.blt .tuple (.cons (.var 0) .nil)) (.cons (.tup .nil) (.cons (.tup (.cons (.tup .nil) .nil)) .nil)))))))) .nil))) }
def f38 : Fn := { np := 2, nl := 3, pure := true, body := (.cons (.ifs (.cmp .eq (.var 0) (.str "plant")) (.cons (.ret (.cmp .is (.call 22 (.cons (.var 1) .nil)) .non)) .nil) .nil) (.cons (.ifs (.cmp .eq (.var 0) (.str "target")) (.cons (.ret (.bool true (.call 34 (.cons (.var 1) .nil)) (.one (.blt .all (.cons (.lc (.bool false (.cmp .is (.var 2) .non) (.one (.call 11 (.cons (.var 2) .nil)))) (.nm 2) (.val (.var 1)) (.bl true) [("one", 2)]) .nil))))) .nil) .nil) (.cons (.ifs (.cmp .eq (.var 0) (.str "orders")) (.cons (.ret (.call 29 (.cons (.call 37 .nil) (.cons (.var 1) .nil)))) .nil) .nil) (.cons (.ifs (.cmp .eq (.var 0) (.str "log")) (.cons (.ret (.call 36 (.cons (.var 1) .nil))) .nil) .nil) (.cons (.ifs (.not (.blt .isinst (.cons (.var 1) (.cons (.tyc "tuple" "tuple") .nil)))) (.cons (.ret (.bl false)) .nil) .nil) (.cons (.ifs (.cmp .eq (.var 0) (.str "task")) (.cons (.ret (.bool true (.cmp .eq (.blt .len (.cons (.var 1) .nil)) (.int 2)) (.bool true (.call 1 (.cons (.ix (.var 1) (.int 0)) (.cons (.int 0) (.cons (.glo "MOST_ACTS") .nil)))) (.one (.call 34 (.cons (.ix (.var 1) (.int 1)) .nil)))))) .nil) .nil) (.cons (.ifs (.bool false (.cmp .ne (.blt .len (.cons (.var 1) .nil)) (.int 3)) (.bool false (.not (.call 1 (.cons (.ix (.var 1) (.int 0)) (.cons (.int 0) (.cons (.glo "MOST_MOMENT") .nil))))) (.one (.not (.call 1 (.cons (.ix (.var 1) (.int 1)) (.cons (.int 0) (.cons (.bin .sub (.glo "MOST_GEARS") (.int 1)) .nil)))))))) (.cons (.ret (.bl false)) .nil) .nil) (.cons (.ret (.call 7 (.cons (.ix (.var 1) (.int 2)) .nil))) .nil)))))))) }
def f39 : Fn := { np := 2, nl := 4, pure := true, body := (.cons (.asg (.tp (.cons (.nm 2) (.cons (.nm 3) .nil))) (.call 33 (.cons (.var 1) .nil))) (.cons (.ret (.ife (.bool true (.var 2) (.one (.call 38 (.cons (.var 0) (.cons (.var 3) .nil))))) (.var 3) .non)) .nil)) }
def f40 : Fn := { np := 1, nl := 2, pure := true, body := (.cons (.ifs (.bool false (.not (.blt .isinst (.cons (.var 0) (.cons (.tyc "str" "str") .nil)))) (.bool false (.not (.chain .le .le (.int 1) (.blt .len (.cons (.var 0) .nil)) (.glo "MOST_DESK_NAME"))) (.one (.cmp .nin (.ix (.var 0) (.int 0)) (.glo "DESK_LETTERS"))))) (.cons (.ret (.bl false)) .nil) .nil) (.cons (.ret (.blt .all (.cons (.lc (.cmp .isin (.var 1) (.glo "DESK_SIGNS")) (.nm 1) (.val (.var 0)) (.bl true) [("sign", 1)]) .nil))) .nil)) }
def f41 : Fn := { np := 1, nl := 2, pure := true, body := (.cons (.ifs (.bool false (.not (.chain .le .le (.int 1) (.blt .len (.cons (.var 0) .nil)) (.glo "MOST_DESK_FIGURES"))) (.one (.not (.blt .all (.cons (.lc (.cmp .isin (.var 1) (.glo "DESK_FIGURES")) (.nm 1) (.val (.var 0)) (.bl true) [("sign", 1)]) .nil))))) (.cons (.ret .non) .nil) .nil) (.cons (.ret (.ife (.bool false (.cmp .eq (.var 0) (.str "0")) (.one (.cmp .ne (.ix (.var 0) (.int 0)) (.str "0")))) (.blt .intOf (.cons (.var 0) .nil)) .non)) .nil)) }
def f42 : Fn := { np := 1, nl := 2, pure := true, body := (.cons (.ifs (.cmp .ne (.sl (.var 0) .non (.int 1)) (.str "-")) (.cons (.ret (.call 41 (.cons (.var 0) .nil))) .nil) .nil) (.cons (.asg (.nm 1) (.call 41 (.cons (.sl (.var 0) (.int 1) .non) .nil))) (.cons (.ret (.ife (.bool false (.cmp .is (.var 1) .non) (.one (.cmp .eq (.var 1) (.int 0)))) .non (.bin .sub (.int 0) (.var 1)))) .nil))) }
def f43 : Fn := { np := 1, nl := 4, pure := true, body := (.cons (.asg (.nm 1) (.ife (.cmp .eq (.var 0) (.glo "DESK_NONE")) (.lst .nil) (.mth .split (.var 0) (.cons (.str ",") .nil)))) (.cons (.asg (.nm 2) (.lc (.call 42 (.cons (.var 3) .nil)) (.nm 3) (.val (.var 1)) (.bl true) [("one", 3)])) (.cons (.ret (.ife (.bool false (.cmp .gt (.blt .len (.cons (.var 1) .nil)) (.glo "MOST_DESK_ELEMENTS")) (.one (.blt .any (.cons (.lc (.cmp .is (.var 3) .non) (.nm 3) (.val (.var 2)) (.bl true) [("one", 3)]) .nil)))) .non (.var 2))) .nil))) }
def f44 : Fn := { np := 2, nl := 2, pure := true, body := (.cons (.ifs (.cmp .eq (.var 0) (.glo "COUNT")) (.cons (.ret (.call 41 (.cons (.var 1) .nil))) .nil) .nil) (.cons (.ifs (.cmp .eq (.var 0) (.glo "READING")) (.cons (.ret (.call 42 (.cons (.var 1) .nil))) .nil) .nil) (.cons (.ifs (.cmp .eq (.var 0) (.glo "LIST")) (.cons (.ret (.call 43 (.cons (.var 1) .nil))) .nil) .nil) (.cons (.ifs (.cmp .gt (.blt .len (.cons (.var 1) .nil)) (.glo "MOST_DESK_SIGNS")) (.cons (.ret .non) .nil) .nil) (.cons (.ret (.ife (.cmp .eq (.var 0) (.glo "FRACTION")) (.call 9 (.cons (.var 1) .nil)) (.call 10 (.cons (.var 1) .nil)))) .nil))))) }
def f45 : Fn := { np := 2, nl := 2, pure := true, body := (.cons (.ifs (.cmp .isin (.var 0) (.tup (.cons (.glo "COUNT") (.cons (.glo "READING") (.cons (.glo "LIST") (.cons (.glo "FRACTION") (.cons (.glo "STRETCH") .nil))))))) (.cons (.ret (.call 44 (.cons (.var 0) (.cons (.var 1) .nil)))) .nil) .nil) (.cons (.ifs (.cmp .eq (.var 0) (.glo "WORD")) (.cons (.ret (.ife (.cmp .isin (.var 1) (.glo "DESK_CLAIMS")) (.var 1) .non)) .nil) .nil) (.cons (.ret (.ife (.call 40 (.cons (.var 1) .nil)) (.var 1) .non)) .nil))) }
def f46 : Fn := { np := 1, nl := 2, pure := true, body := (.cons (.asg (.nm 1) (.ix (.var 0) (.int 0))) (.cons (.ifs (.bool true (.cmp .eq (.var 1) (.str "claim")) (.bool true (.cmp .gt (.blt .len (.cons (.var 0) .nil)) (.int 2)) (.one (.cmp .isin (.ix (.var 0) (.int 2)) (.glo "DESK_CLAIMS"))))) (.cons (.ret (.bin .add (.ix (.glo "DESK_DEEDS") (.var 1)) (.ix (.glo "DESK_CLAIMS") (.ix (.var 0) (.int 2))))) .nil) .nil) (.cons (.ifs (.cmp .isin (.var 1) (.glo "DESK_DEEDS")) (.cons (.ret (.ix (.glo "DESK_DEEDS") (.var 1))) .nil) .nil) (.cons (.ret (.ife (.cmp .isin (.var 1) (.glo "DESK_ASKED")) (.ix (.glo "DESK_ASKED") (.var 1)) .non)) .nil)))) }
def f47 : Fn := { np := 1, nl := 3, pure := true, body := (.cons (.asg (.nm 1) (.mth .splitMax (.var 0) (.cons (.str " ") (.cons (.int 2) .nil)))) (.cons (.ifs (.bool false (.cmp .ne (.blt .len (.cons (.var 1) .nil)) (.int 3)) (.one (.not (.call 40 (.cons (.ix (.var 1) (.int 1)) .nil))))) (.cons (.ret .non) .nil) .nil) (.cons (.asg (.nm 2) (.call 39 (.cons (.ix (.var 1) (.int 0)) (.cons (.ix (.var 1) (.int 2)) .nil)))) (.cons (.ret (.ife (.cmp .is (.var 2) .non) .non (.tup (.cons (.ix (.var 1) (.int 0)) (.cons (.lst (.cons (.ix (.var 1) (.int 1)) (.cons (.var 2) .nil))) .nil))))) .nil)))) }
def f48 : Fn := { np := 1, nl := 2, pure := true, body := (.cons (.asg (.nm 1) (.mth .splitMax (.var 0) (.cons (.str " ") (.cons (.int 3) .nil)))) (.cons (.ifs (.bool false (.cmp .ne (.blt .len (.cons (.var 1) .nil)) (.int 4)) (.bool false (.not (.call 40 (.cons (.ix (.var 1) (.int 1)) .nil))) (.bool false (.not (.call 40 (.cons (.ix (.var 1) (.int 2)) .nil))) (.one (.cmp .isin (.str "\n") (.ix (.var 1) (.int 3))))))) (.cons (.ret .non) .nil) .nil) (.cons (.ret (.tup (.cons (.glo "TEACH") (.cons (.lst (.cons (.ix (.var 1) (.int 1)) (.cons (.ix (.var 1) (.int 2)) (.cons (.mth .split (.ix (.var 1) (.int 3)) (.cons (.str "; ") .nil)) .nil)))) .nil)))) .nil))) }
def f49 : Fn := { np := 1, nl := 7, pure := true, body := (.cons (.ifs (.not (.blt .isinst (.cons (.var 0) (.cons (.tyc "str" "str") .nil)))) (.cons (.ret .non) .nil) .nil) (.cons (.asg (.nm 1) (.mth .split (.var 0) (.cons (.str " ") .nil))) (.cons (.ifs (.cmp .isin (.ix (.var 1) (.int 0)) (.glo "SORTS")) (.cons (.ret (.call 47 (.cons (.var 0) .nil))) .nil) .nil) (.cons (.ifs (.cmp .eq (.ix (.var 1) (.int 0)) (.glo "TEACH")) (.cons (.ret (.call 48 (.cons (.var 0) .nil))) .nil) .nil) (.cons (.asg (.nm 2) (.call 46 (.cons (.var 1) .nil))) (.cons (.ifs (.bool false (.cmp .is (.var 2) .non) (.one (.cmp .ne (.blt .len (.cons (.var 2) .nil)) (.bin .sub (.blt .len (.cons (.var 1) .nil)) (.int 1))))) (.cons (.ret .non) .nil) .nil) (.cons (.asg (.nm 3) (.lc (.call 45 (.cons (.var 4) (.cons (.var 5) .nil))) (.tp (.cons (.nm 4) (.cons (.nm 5) .nil))) (.zip (.var 2) (.sl (.var 1) (.int 1) .non)) (.bl true) [("kind", 4), ("word", 5)])) (.cons (.ret (.ife (.blt .any (.cons (.lc (.cmp .is (.var 6) .non) (.nm 6) (.val (.var 3)) (.bl true) [("one", 6)]) .nil)) .non (.tup (.cons (.ix (.var 1) (.int 0)) (.cons (.var 3) .nil))))) .nil)))))))) }
def f50 : Fn := { np := 1, nl := 1, pure := true, body := (.cons (.ret (.cmp .nis (.call 49 (.cons (.var 0) .nil)) .non)) .nil) }
def f51 : Fn := { np := 1, nl := 2, pure := true, body := (.cons (.asg (.nm 1) (.call 49 (.cons (.var 0) .nil))) (.cons (.ret (.bool true (.cmp .nis (.var 1) .non) (.one (.bool false (.cmp .isin (.ix (.var 1) (.int 0)) (.glo "SORTS")) (.bool false (.cmp .eq (.ix (.var 1) (.int 0)) (.glo "TEACH")) (.one (.cmp .isin (.ix (.var 1) (.int 0)) (.glo "DESK_DEEDS")))))))) .nil)) }
def f52 : Fn := { np := 2, nl := 3, pure := false, body := (.cons (.asg (.nm 2) (.ife (.cmp .lt (.var 1) (.blt .len (.cons (.var 0) .nil))) (.blt .abs (.cons (.ix (.var 0) (.var 1)) .nil)) (.bin .add (.bin .add (.bin .mul (.int 1069) (.var 1)) (.int 461)) (.bin .mod (.blt .intOf (.cons (.blt .sum (.cons (.sl (.var 0) .non (.int 1)) .nil)) .nil)) (.int 1000003))))) (.cons (.ret (.cell (.cons (.blt .max2 (.cons (.int 0) (.cons (.bin .sub (.var 2) (.bin .pow (.int 10) (.int 18))) .nil))) (.cons (.bin .add (.bin .mod (.blt .intOf (.cons (.bin .add (.bin .add (.bin .mul (.bin .mod (.blt .intOf (.cons (.var 2) .nil)) (.int 2147483549)) (.int 41641)) (.bin .mul (.int 7577) (.var 1))) (.int 71)) .nil)) (.int 2147483563)) (.int 1)) .nil)))) .nil)) }
def f53 : Fn := { np := 2, nl := 3, pure := false, body := (.cons (.ifs (.cmp .gt (.ix (.var 0) (.int 0)) (.int 0)) (.cons (.asg (.tp (.cons (.sub (.var 0) (.int 0)) (.cons (.nm 2) .nil))) (.blt .divmod (.cons (.ix (.var 0) (.int 0)) (.cons (.var 1) .nil)))) (.cons (.ret (.var 2)) .nil)) .nil) (.cons (.asg (.sub (.var 0) (.int 1)) (.bin .mod (.blt .intOf (.cons (.bin .add (.bin .mul (.ix (.var 0) (.int 1)) (.int 40692)) (.int 7577)) .nil)) (.int 2147483587))) (.cons (.ret (.bin .mod (.blt .intOf (.cons (.bin .fdiv (.bin .mod (.blt .intOf (.cons (.bin .mul (.ix (.var 0) (.int 1)) (.ix (.var 0) (.int 1))) .nil)) (.int 2147483549)) (.int 19)) .nil)) (.var 1))) .nil))) }
def f54 : Fn := { np := 2, nl := 2, pure := false, body := (.cons (.ret (.ix (.var 1) (.call 53 (.cons (.var 0) (.cons (.blt .len (.cons (.var 1) .nil)) .nil))))) .nil) }
def f55 : Fn := { np := 0, nl := 4, pure := true, body := (.cons (.asg (.nm 0) (.str "shift nf,enlarge nf,mirror n,gears nl,letters nl,limit ncs,option ncccfs,strike nc,duty ncl,made nnc")) (.cons (.asg (.nm 0) (.bin .add (.var 0) (.str ",read nnccr,void nnc,tidy nn,now nnn,go nncl,order nnn,plain nn,copy nn,drop n,forget n"))) (.cons (.asg (.nm 1) (.str "undo ,redo ,state n,states ,claimed n,names ,show n,same nn,holds nncc,sure nnnc,room nnn,lasts nn")) (.cons (.asg (.nm 1) (.bin .add (.var 1) (.str ",comes nnnc,told ncs,knows nnc,clashes nn,named nnnc"))) (.cons (.asg (.nm 2) (.lc (.bin .add (.mth .split (.var 3) (.cons (.str " ") .nil)) (.lst (.cons (.bl true) .nil))) (.nm 3) (.val (.mth .split (.var 0) (.cons (.str ",") .nil))) (.bl true) [("row", 3)])) (.cons (.ret (.bin .add (.var 2) (.lc (.bin .add (.mth .split (.var 3) (.cons (.str " ") .nil)) (.lst (.cons (.bl false) .nil))) (.nm 3) (.val (.mth .split (.var 1) (.cons (.str ",") .nil))) (.bl true) [("row", 3)]))) .nil)))))) }
def f56 : Fn := { np := 0, nl := 2, pure := true, body := (.cons (.asg (.nm 0) (.str "held nnn,orderly nnnn,endless nn,coming nnnc,can nncf,sound nn,right nnc,unheld nnn,unruly nnnn")) (.cons (.ret (.lc (.mth .split (.var 1) (.cons (.str " ") .nil)) (.nm 1) (.val (.mth .split (.bin .add (.var 0) (.str ",ending nn,far nnnc,cannot nncf,clashing nn,few nnc")) (.cons (.str ",") .nil))) (.bl true) [("row", 1)])) .nil)) }
def f57 : Fn := { np := 1, nl := 2, pure := true, body := (.cons (.ifs (.bool false (.not (.chain .le .le (.int 1) (.blt .len (.cons (.var 0) .nil)) (.int 8))) (.one (.cmp .nin (.ix (.var 0) (.int 0)) (.str "abcdefghijklmnopqrstuvwxyz")))) (.cons (.ret (.bl false)) .nil) .nil) (.cons (.ret (.blt .all (.cons (.lc (.cmp .isin (.var 1) (.str "abcdefghijklmnopqrstuvwxyz0123456789")) (.nm 1) (.val (.var 0)) (.bl true) [("sign", 1)]) .nil))) .nil)) }
def f58 : Fn := { np := 2, nl := 3, pure := true, body := (.cons (.ret (.bool true (.chain .le .le (.int 1) (.blt .len (.cons (.var 0) .nil)) (.var 1)) (.bool true (.blt .all (.cons (.lc (.cmp .isin (.var 2) (.str "0123456789")) (.nm 2) (.val (.var 0)) (.bl true) [("sign", 2)]) .nil)) (.one (.bool false (.cmp .ne (.ix (.var 0) (.int 0)) (.str "0")) (.one (.cmp .eq (.var 0) (.str "0")))))))) .nil) }
def f59 : Fn := { np := 2, nl := 2, pure := true, body := (.cons (.ret (.bool false (.call 58 (.cons (.var 0) (.cons (.var 1) .nil))) (.one (.bool true (.cmp .eq (.sl (.var 0) .non (.int 1)) (.str "-")) (.bool true (.cmp .ne (.var 0) (.str "-0")) (.one (.call 58 (.cons (.sl (.var 0) (.int 1) .non) (.cons (.var 1) .nil))))))))) .nil) }
def f60 : Fn := { np := 2, nl := 2, pure := true, body := (.cons (.whl (.cmp .gt (.var 1) (.int 0)) (.cons (.par2 0 1 (.var 1) (.bin .mod (.blt .intOf (.cons (.var 0) .nil)) (.var 1))) .nil)) (.cons (.ret (.var 0)) .nil)) }
def f61 : Fn := { np := 1, nl := 4, pure := true, body := (.cons (.asg (.nm 1) (.mth .split (.var 0) (.cons (.str "/") .nil))) (.cons (.ifs (.bool false (.cmp .gt (.blt .len (.cons (.var 1) .nil)) (.int 2)) (.bool false (.not (.call 59 (.cons (.ix (.var 1) (.int 0)) (.cons (.int 40) .nil)))) (.one (.bool true (.cmp .eq (.blt .len (.cons (.var 1) .nil)) (.int 2)) (.one (.not (.call 58 (.cons (.ix (.var 1) (.int 1)) (.cons (.int 40) .nil))))))))) (.cons (.ret .non) .nil) .nil) (.cons (.ifs (.cmp .eq (.blt .len (.cons (.var 1) .nil)) (.int 1)) (.cons (.ret (.tup (.cons (.blt .intOf (.cons (.var 0) .nil)) (.cons (.int 1) .nil)))) .nil) .nil) (.cons (.par2 2 3 (.blt .intOf (.cons (.ix (.var 1) (.int 0)) .nil)) (.blt .intOf (.cons (.ix (.var 1) (.int 1)) .nil))) (.cons (.ret (.ife (.bool true (.cmp .gt (.var 3) (.int 1)) (.one (.cmp .eq (.call 60 (.cons (.blt .abs (.cons (.var 2) .nil)) (.cons (.var 3) .nil))) (.int 1)))) (.tup (.cons (.var 2) (.cons (.var 3) .nil))) .non)) .nil))))) }
def f62 : Fn := { np := 2, nl := 6, pure := true, body := (.cons (.ifs (.cmp .eq (.var 0) (.str "n")) (.cons (.ret (.call 57 (.cons (.var 1) .nil))) .nil) .nil) (.cons (.ifs (.cmp .eq (.var 0) (.str "c")) (.cons (.ret (.call 58 (.cons (.var 1) (.cons (.int 6) .nil)))) .nil) .nil) (.cons (.ifs (.cmp .eq (.var 0) (.str "r")) (.cons (.ret (.call 59 (.cons (.var 1) (.cons (.int 6) .nil)))) .nil) .nil) (.cons (.ifs (.cmp .eq (.var 0) (.str "l")) (.cons (.asg (.nm 2) (.mth .split (.var 1) (.cons (.str ",") .nil))) (.cons (.ret (.bool false (.cmp .eq (.var 1) (.str "-")) (.one (.bool true (.cmp .lt (.blt .len (.cons (.var 2) .nil)) (.int 97)) (.one (.blt .all (.cons (.lc (.call 59 (.cons (.var 4) (.cons (.int 6) .nil))) (.nm 4) (.val (.var 2)) (.bl true) [("one", 4)]) .nil))))))) .nil)) .nil) (.cons (.ifs (.cmp .gt (.blt .len (.cons (.var 1) .nil)) (.int 40)) (.cons (.ret (.bl false)) .nil) .nil) (.cons (.ifs (.cmp .eq (.var 0) (.str "f")) (.cons (.ret (.cmp .nis (.call 61 (.cons (.var 1) .nil)) .non)) .nil) .nil) (.cons (.asg (.nm 3) (.lc (.call 61 (.cons (.var 5) .nil)) (.nm 5) (.val (.mth .split (.var 1) (.cons (.str "..") .nil))) (.bl true) [("part", 5)])) (.cons (.ret (.bool true (.cmp .eq (.blt .len (.cons (.var 3) .nil)) (.int 2)) (.bool true (.cmp .nin .non (.var 3)) (.one (.cmp .le (.bin .mul (.ix (.ix (.var 3) (.int 0)) (.int 0)) (.ix (.ix (.var 3) (.int 1)) (.int 1))) (.bin .mul (.ix (.ix (.var 3) (.int 1)) (.int 0)) (.ix (.ix (.var 3) (.int 0)) (.int 1)))))))) .nil)))))))) }
def f63 : Fn := { np := 1, nl := 7, pure := true, body := (.cons (.for (.tp (.cons (.nm 1) (.cons (.nm 2) (.cons (.nm 3) .nil)))) (.val (.call 55 .nil)) (.cons (.ifs (.cmp .eq (.ix (.var 0) (.int 0)) (.var 1)) (.cons (.asg (.nm 4) (.cmp .eq (.blt .len (.cons (.var 0) .nil)) (.bin .add (.blt .len (.cons (.var 2) .nil)) (.int 1)))) (.cons (.asg (.nm 4) (.bool true (.var 4) (.one (.blt .all (.cons (.lc (.call 62 (.cons (.var 5) (.cons (.var 6) .nil))) (.tp (.cons (.nm 5) (.cons (.nm 6) .nil))) (.zip (.var 2) (.sl (.var 0) (.int 1) .non)) (.bl true) [("kind", 5), ("part", 6)]) .nil))))) (.cons (.ret (.lst (.cons (.var 4) (.cons (.bool true (.var 4) (.one (.var 3))) .nil)))) .nil))) .nil) .nil)) (.cons (.ifs (.bool true (.cmp .eq (.ix (.var 0) (.int 0)) (.str "claim")) (.one (.cmp .gt (.blt .len (.cons (.var 0) .nil)) (.int 2)))) (.cons (.for (.tp (.cons (.nm 1) (.cons (.nm 2) .nil))) (.val (.call 56 .nil)) (.cons (.ifs (.cmp .eq (.ix (.var 0) (.int 2)) (.var 1)) (.cons (.asg (.nm 4) (.bool true (.cmp .eq (.blt .len (.cons (.var 0) .nil)) (.bin .add (.blt .len (.cons (.var 2) .nil)) (.int 3))) (.one (.call 57 (.cons (.ix (.var 0) (.int 1)) .nil))))) (.cons (.asg (.nm 4) (.bool true (.var 4) (.one (.blt .all (.cons (.lc (.call 62 (.cons (.var 5) (.cons (.var 6) .nil))) (.tp (.cons (.nm 5) (.cons (.nm 6) .nil))) (.zip (.var 2) (.sl (.var 0) (.int 3) .non)) (.bl true) [("kind", 5), ("part", 6)]) .nil))))) (.cons (.ret (.lst (.cons (.var 4) (.cons (.var 4) .nil)))) .nil))) .nil) .nil)) .nil) .nil) (.cons (.ret (.lst (.cons (.bl false) (.cons (.bl false) .nil)))) .nil))) }
def f64 : Fn := { np := 2, nl := 2, pure := false, body := (.cons (.ifs (.cmp .eq (.var 1) (.str "n")) (.cons (.ret (.call 54 (.cons (.var 0) (.cons (.lst (.cons (.str "a") (.cons (.str "p1") (.cons (.str "abcdefgh") (.cons (.str "z9") (.cons (.str "undo") (.cons (.str "plant") (.cons (.str "held") .nil)))))))) .nil)))) .nil) .nil) (.cons (.ifs (.cmp .eq (.var 1) (.str "c")) (.cons (.ret (.call 54 (.cons (.var 0) (.cons (.lst (.cons (.str "0") (.cons (.str "7") (.cons (.str "10") (.cons (.str "999999") .nil))))) .nil)))) .nil) .nil) (.cons (.ifs (.cmp .eq (.var 1) (.str "r")) (.cons (.ret (.call 54 (.cons (.var 0) (.cons (.lst (.cons (.str "0") (.cons (.str "-1") (.cons (.str "-999999") (.cons (.str "12") .nil))))) .nil)))) .nil) .nil) (.cons (.ifs (.cmp .eq (.var 1) (.str "l")) (.cons (.ret (.call 54 (.cons (.var 0) (.cons (.lst (.cons (.str "-") (.cons (.str "0") (.cons (.str "1,0") (.cons (.str "-3,4,-5") (.cons (.mth .join (.str ",") (.cons (.bin .mul (.lst (.cons (.str "7") .nil)) (.int 96)) .nil)) .nil)))))) .nil)))) .nil) .nil) (.cons (.ifs (.cmp .eq (.var 1) (.str "f")) (.cons (.ret (.call 54 (.cons (.var 0) (.cons (.lst (.cons (.str "0") (.cons (.str "-1/2") (.cons (.str "7") (.cons (.str "22/7") (.cons (.bin .mul (.str "1") (.int 31)) (.cons (.bin .add (.bin .mul (.str "1") (.int 31)) (.str "/10000000")) (.cons (.bin .add (.bin .add (.str "-") (.bin .mul (.str "7") (.int 30))) (.str "/2")) .nil)))))))) .nil)))) .nil) .nil) (.cons (.ret (.call 54 (.cons (.var 0) (.cons (.lst (.cons (.str "0..0") (.cons (.str "-1/2..3") (.cons (.str "1/3..1/2") (.cons (.str "7..9") (.cons (.bin .add (.bin .add (.bin .mul (.str "1") (.int 19)) (.str "..")) (.bin .mul (.str "1") (.int 19))) .nil)))))) .nil)))) .nil)))))) }
def f65 : Fn := { np := 1, nl := 2, pure := false, body := (.cons (.asg (.nm 1) (.lst (.cons (.str "") (.cons (.str "A") (.cons (.str "abcdefghi") (.cons (.str "1a") (.cons (.str "a-b") (.cons (.str "-") (.cons (.str "-0") (.cons (.str "00") (.cons (.str "01") (.cons (.str "1000000") (.cons (.str "-1000000") (.cons (.str "1/2") (.cons (.str "2/4") (.cons (.str "1/1") .nil)))))))))))))))) (.cons (.asg (.nm 1) (.bin .add (.var 1) (.lst (.cons (.str "1/0") (.cons (.str "1/-2") .nil))))) (.cons (.asg (.nm 1) (.bin .add (.var 1) (.lst (.cons (.str "1..2") (.cons (.str "2..1") (.cons (.str "1..") (.cons (.str "..1") (.cons (.str "1...2") (.cons (.str "1,,2") (.cons (.str "1,") (.cons (.str ",1") (.cons (.str "-,1") (.cons (.str "1,01") (.cons (.str "+1") (.cons (.str "a b") (.cons (.str "0..1..2") .nil)))))))))))))))) (.cons (.asg (.nm 1) (.bin .add (.var 1) (.lst (.cons (.str "-7") (.cons (.str "3") .nil))))) (.cons (.asg (.nm 1) (.bin .add (.var 1) (.lst (.cons (.mth .join (.str ",") (.cons (.bin .mul (.lst (.cons (.str "7") .nil)) (.int 97)) .nil)) (.cons (.bin .add (.bin .mul (.str "1") (.int 31)) (.str "/100000000")) (.cons (.bin .mul (.str "1") (.int 41)) (.cons (.bin .add (.bin .add (.bin .mul (.str "1") (.int 20)) (.str "..")) (.bin .mul (.str "1") (.int 19))) (.cons (.str "a") (.cons (.str "Undo") .nil))))))))) (.cons (.asg (.nm 1) (.bin .add (.var 1) (.lst (.cons (.str "1/2..2/4") (.cons (.str "5.5") (.cons (.str "x\n") .nil)))))) (.cons (.ret (.call 54 (.cons (.var 0) (.cons (.var 1) .nil)))) .nil))))))) }
def f66 : Fn := { np := 1, nl := 5, pure := false, body := (.cons (.ifs (.cmp .eq (.call 53 (.cons (.var 0) (.cons (.int 3) .nil))) (.int 0)) (.cons (.asg (.tp (.cons (.nm 1) (.cons (.nm 2) .nil))) (.call 54 (.cons (.var 0) (.cons (.call 56 .nil) .nil)))) (.cons (.ret (.bin .add (.lst (.cons (.str "claim") (.cons (.call 64 (.cons (.var 0) (.cons (.str "n") .nil))) (.cons (.var 1) .nil)))) (.lc (.call 64 (.cons (.var 0) (.cons (.var 4) .nil))) (.nm 4) (.val (.var 2)) (.bl true) [("kind", 4)]))) .nil)) .nil) (.cons (.asg (.tp (.cons (.nm 1) (.cons (.nm 2) (.cons (.nm 3) .nil)))) (.call 54 (.cons (.var 0) (.cons (.call 55 .nil) .nil)))) (.cons (.ret (.bin .add (.lst (.cons (.var 1) .nil)) (.lc (.call 64 (.cons (.var 0) (.cons (.var 4) .nil))) (.nm 4) (.val (.var 2)) (.bl true) [("kind", 4)]))) .nil))) }
def f67 : Fn := { np := 2, nl := 4, pure := false, body := (.cons (.par2 2 3 (.call 53 (.cons (.var 0) (.cons (.blt .len (.cons (.var 1) .nil)) .nil))) (.call 53 (.cons (.var 0) (.cons (.int 7) .nil)))) (.cons (.ifs (.cmp .eq (.var 3) (.int 0)) (.cons (.ret (.ife (.cmp .gt (.blt .len (.cons (.var 1) .nil)) (.int 1)) (.bin .add (.sl (.var 1) .non (.var 2)) (.sl (.var 1) (.bin .add (.var 2) (.int 1)) .non)) (.lst (.cons (.str "") .nil)))) .nil) .nil) (.cons (.ifs (.cmp .eq (.var 3) (.int 1)) (.cons (.ret (.bin .add (.bin .add (.sl (.var 1) .non (.var 2)) (.lst (.cons (.ix (.var 1) (.var 2)) .nil))) (.sl (.var 1) (.var 2) .non))) .nil) .nil) (.cons (.ifs (.cmp .eq (.var 3) (.int 2)) (.cons (.ret (.bin .add (.var 1) (.lst (.cons (.call 65 (.cons (.var 0) .nil)) .nil)))) .nil) .nil) (.cons (.ifs (.cmp .eq (.var 3) (.int 3)) (.cons (.ret (.slrev (.var 1))) .nil) .nil) (.cons (.ifs (.cmp .eq (.var 3) (.int 4)) (.cons (.ret (.bin .add (.lst (.cons (.mth .upper (.ix (.var 1) (.int 0)) .nil) .nil)) (.sl (.var 1) (.int 1) .non))) .nil) .nil) (.cons (.ret (.bin .add (.bin .add (.sl (.var 1) .non (.var 2)) (.lst (.cons (.call 65 (.cons (.var 0) .nil)) .nil))) (.sl (.var 1) (.bin .add (.var 2) (.int 1)) .non))) .nil))))))) }
def f68 : Fn := { np := 1, nl := 2, pure := false, body := (.cons (.asg (.nm 1) (.lst (.cons (.lst (.cons (.str "plant p (plant 1 (((0 1) (1 1))) ((0 0 0 (1 1) ((0 1) (0 1)))) () (()))") (.cons (.bl true) .nil))) .nil))) (.cons (.asg (.nm 1) (.bin .add (.var 1) (.lst (.cons (.lst (.cons (.str "task t (24 (((0 1) (1 1)) -))") (.cons (.bl true) .nil))) .nil)))) (.cons (.asg (.nm 1) (.bin .add (.var 1) (.lst (.cons (.lst (.cons (.str "known k (0 5 ((-1 2) (1 2)))") (.cons (.bl true) .nil))) (.cons (.lst (.cons (.str "target g (- ((1 3) (1 2)))") (.cons (.bl true) .nil))) .nil))))) (.cons (.asg (.nm 1) (.bin .add (.var 1) (.lst (.cons (.lst (.cons (.str "orders o (orders () 11)") (.cons (.bl true) .nil))) .nil)))) (.cons (.asg (.nm 1) (.bin .add (.var 1) (.lst (.cons (.lst (.cons (.str "orders o (orders (((least (1 2)) 0)) 1)") (.cons (.bl true) .nil))) .nil)))) (.cons (.asg (.nm 1) (.bin .add (.var 1) (.lst (.cons (.lst (.cons (.str "log l (log 0 ((0 1) (1 1)) ((made 0) (read 1 0 -7)))") (.cons (.bl true) .nil))) .nil)))) (.cons (.asg (.nm 1) (.bin .add (.var 1) (.lst (.cons (.lst (.cons (.str "plant p (plant 1 (((0 1) (1 1))) ((0 0 0 (1 1) ((0 1) (0 1)))) ())") (.cons (.bl false) .nil))) .nil)))) (.cons (.asg (.nm 1) (.bin .add (.var 1) (.lst (.cons (.lst (.cons (.str "task t (25 (-))") (.cons (.bl false) .nil))) .nil)))) (.cons (.asg (.nm 1) (.bin .add (.var 1) (.lst (.cons (.lst (.cons (.str "known k (0 6 ((-1 2) (1 2)))") (.cons (.bl false) .nil))) (.cons (.lst (.cons (.str "known k (0 5 ((1 2) (-1 2)))") (.cons (.bl false) .nil))) .nil))))) (.cons (.asg (.nm 1) (.bin .add (.var 1) (.lst (.cons (.lst (.cons (.str "target g ()") (.cons (.bl false) .nil))) .nil)))) (.cons (.asg (.nm 1) (.bin .add (.var 1) (.lst (.cons (.lst (.cons (.str "orders o (orders () 12)") (.cons (.bl false) .nil))) (.cons (.lst (.cons (.str "log l (log 0 ((0 1) (1 1)) ((read 1 0 0)))") (.cons (.bl false) .nil))) .nil))))) (.cons (.asg (.nm 1) (.bin .add (.var 1) (.lst (.cons (.lst (.cons (.str "known (0 0 ((0 1) (1 1)))") (.cons (.bl false) .nil))) .nil)))) (.cons (.asg (.nm 1) (.bin .add (.var 1) (.lst (.cons (.lst (.cons (.str "known K (0 0 ((0 1) (1 1)))") (.cons (.bl false) .nil))) (.cons (.lst (.cons (.str "known k  (0 0 ((0 1) (1 1)))") (.cons (.bl false) .nil))) .nil))))) (.cons (.asg (.nm 1) (.bin .add (.var 1) (.lst (.cons (.lst (.cons (.str "known k (0 0 ((0 1) (1 1))) ") (.cons (.bl false) .nil))) .nil)))) (.cons (.asg (.nm 1) (.bin .add (.var 1) (.lst (.cons (.lst (.cons (.str "teach o p if most 7 do 0; else do 1") (.cons (.bl true) .nil))) (.cons (.lst (.cons (.str "teach o p ") (.cons (.bl true) .nil))) (.cons (.lst (.cons (.str "teach o p  ; ") (.cons (.bl true) .nil))) .nil)))))) (.cons (.asg (.nm 1) (.bin .add (.var 1) (.lst (.cons (.lst (.cons (.str "teach o p") (.cons (.bl false) .nil))) .nil)))) (.cons (.asg (.nm 1) (.bin .add (.var 1) (.lst (.cons (.lst (.cons (.str "teach o P else do 1") (.cons (.bl false) .nil))) (.cons (.lst (.cons (.str "teach o p else do 1\n") (.cons (.bl false) .nil))) (.cons (.lst (.cons (.str "teach") (.cons (.bl false) .nil))) .nil)))))) (.cons (.asg (.nm 1) (.bin .add (.var 1) (.lst (.cons (.lst (.cons (.str "known") (.cons (.bl false) .nil))) (.cons (.lst (.cons (.str "") (.cons (.bl false) .nil))) (.cons (.lst (.cons (.str " ") (.cons (.bl false) .nil))) .nil)))))) (.cons (.ret (.call 54 (.cons (.var 0) (.cons (.var 1) .nil)))) .nil))))))))))))))))))) }
def f69 : Fn := { np := 2, nl := 2, pure := true, body := (.cons (.ret (.cmp .eq (.blt .repr (.cons (.lst (.cons (.call 50 (.cons (.var 0) .nil)) (.cons (.call 51 (.cons (.var 0) .nil)) (.cons (.callK 50 "value" (.var 0)) (.cons (.callK 51 "value" (.var 0)) .nil))))) .nil)) (.blt .repr (.cons (.bin .mul (.var 1) (.int 2)) .nil)))) .nil) }
def f70 : Fn := { np := 1, nl := 10, pure := true, body := (.cons (.for (.nm 1) (.rng1 (.blt .max2 (.cons (.int 1) (.cons (.blt .min2 (.cons (.int 3) (.cons (.blt .len (.cons (.var 0) .nil)) .nil))) .nil)))) (.cons (.asg (.nm 2) (.call 52 (.cons (.var 0) (.cons (.var 1) .nil)))) (.cons (.for (.nm 3) (.rng1 (.int 8)) (.cons (.asg (.nm 4) (.call 66 (.cons (.var 2) .nil))) (.cons (.ifs (.bool false (.cmp .nis (.ix (.call 63 (.cons (.var 4) .nil)) (.int 0)) (.bl true)) (.one (.not (.call 69 (.cons (.mth .join (.str " ") (.cons (.var 4) .nil)) (.cons (.call 63 (.cons (.var 4) .nil)) .nil)))))) (.cons (.ret (.bl false)) .nil) .nil) (.cons (.asg (.nm 5) (.mth .split (.mth .join (.str " ") (.cons (.call 67 (.cons (.var 2) (.cons (.var 4) .nil))) .nil)) (.cons (.str " ") .nil))) (.cons (.ifs (.cmp .nin (.ix (.var 5) (.int 0)) (.tup (.cons (.str "plant") (.cons (.str "task") (.cons (.str "known") (.cons (.str "target") (.cons (.str "orders") (.cons (.str "log") (.cons (.str "teach") .nil))))))))) (.cons (.ifs (.not (.call 69 (.cons (.mth .join (.str " ") (.cons (.var 5) .nil)) (.cons (.call 63 (.cons (.var 5) .nil)) .nil)))) (.cons (.ret (.bl false)) .nil) .nil) .nil) .nil) (.cons (.asg (.tp (.cons (.nm 6) (.cons (.nm 7) .nil))) (.call 68 (.cons (.var 2) .nil))) (.cons (.ifs (.not (.call 69 (.cons (.var 6) (.cons (.lst (.cons (.var 7) (.cons (.var 7) .nil))) .nil)))) (.cons (.ret (.bl false)) .nil) .nil) (.cons (.asg (.nm 8) (.call 54 (.cons (.var 2) (.cons (.lst (.cons (.call 65 (.cons (.var 2) .nil)) (.cons (.call 64 (.cons (.var 2) (.cons (.str "n") .nil))) (.cons (.str "abcdefgh") (.cons (.str "abcdefg89") (.cons (.str "9a") (.cons (.str "a_") .nil))))))) .nil)))) (.cons (.ifs (.cmp .ne (.blt .repr (.cons (.lst (.cons (.call 40 (.cons (.var 8) .nil)) (.cons (.callK 40 "value" (.var 8)) .nil))) .nil)) (.blt .repr (.cons (.bin .mul (.lst (.cons (.call 57 (.cons (.var 8) .nil)) .nil)) (.int 2)) .nil))) (.cons (.ret (.bl false)) .nil) .nil) .nil))))))))) .nil))) (.cons (.for (.nm 9) (.val (.lst (.cons .non (.cons (.int 5) (.cons (.bl true) (.cons (.lst (.cons (.str "undo") .nil)) (.cons (.tup (.cons (.str "undo") .nil)) (.cons .emp .nil)))))))) (.cons (.ifs (.bool false (.not (.call 69 (.cons (.var 9) (.cons (.lst (.cons (.bl false) (.cons (.bl false) .nil))) .nil)))) (.one (.cmp .nis (.call 40 (.cons (.var 9) .nil)) (.bl false)))) (.cons (.ret (.bl false)) .nil) .nil) .nil)) (.cons (.ret (.bl true)) .nil))) }
def names : List (Str × List Str) := [(Str.ofString "is_integer", [Str.ofString "value"]),
  (Str.ofString "is_within", [Str.ofString "value", Str.ofString "least", Str.ofString "most"]),
  (Str.ofString "fraction", [Str.ofString "above", Str.ofString "below"]),
  (Str.ofString "lower", [Str.ofString "a", Str.ofString "b"]),
  (Str.ofString "added", [Str.ofString "a", Str.ofString "b"]),
  (Str.ofString "is_fraction", [Str.ofString "value"]),
  (Str.ofString "is_short", [Str.ofString "value"]),
  (Str.ofString "is_stretch", [Str.ofString "value"]),
  (Str.ofString "count_read", [Str.ofString "text"]),
  (Str.ofString "read_fraction", [Str.ofString "text"]),
  (Str.ofString "read_stretch", [Str.ofString "text"]),
  (Str.ofString "is_short_stretch", [Str.ofString "value"]),
  (Str.ofString "are_limits", [Str.ofString "value"]),
  (Str.ofString "is_factor", [Str.ofString "value"]),
  (Str.ofString "is_option", [Str.ofString "letters", Str.ofString "gears", Str.ofString "value"]),
  (Str.ofString "are_options", [Str.ofString "letters", Str.ofString "gears", Str.ofString "value"]),
  (Str.ofString "is_grid", [Str.ofString "value"]),
  (Str.ofString "are_marks", [Str.ofString "value"]),
  (Str.ofString "is_sensor", [Str.ofString "value"]),
  (Str.ofString "are_sensors", [Str.ofString "value"]),
  (Str.ofString "is_duty", [Str.ofString "sensors", Str.ofString "value"]),
  (Str.ofString "are_duties", [Str.ofString "sensors", Str.ofString "value"]),
  (Str.ofString "flaw_in", [Str.ofString "value"]),
  (Str.ofString "is_plain", [Str.ofString "plant", Str.ofString "word", Str.ofString "value"]),
  (Str.ofString "is_formed", [Str.ofString "plant", Str.ofString "value", Str.ofString "deep"]),
  (Str.ofString "conditions_in", [Str.ofString "condition"]),
  (Str.ofString "parts_of", [Str.ofString "condition"]),
  (Str.ofString "is_condition_of", [Str.ofString "plant", Str.ofString "value"]),
  (Str.ofString "is_row", [Str.ofString "plant", Str.ofString "value"]),
  (Str.ofString "are_orders", [Str.ofString "plant", Str.ofString "value"]),
  (Str.ofString "run_end", [Str.ofString "text", Str.ofString "begin", Str.ofString "signs", Str.ofString "most"]),
  (Str.ofString "bare_end", [Str.ofString "text", Str.ofString "begin"]),
  (Str.ofString "bare_told", [Str.ofString "text"]),
  (Str.ofString "thing_read", [Str.ofString "text"]),
  (Str.ofString "are_stretches_or_none", [Str.ofString "value"]),
  (Str.ofString "is_event_thing", [Str.ofString "events", Str.ofString "gone", Str.ofString "made", Str.ofString "value"]),
  (Str.ofString "is_log_thing", [Str.ofString "value"]),
  (Str.ofString "great_plant", []),
  (Str.ofString "is_thing_of", [Str.ofString "sort", Str.ofString "value"]),
  (Str.ofString "read_by", [Str.ofString "sort", Str.ofString "text"]),
  (Str.ofString "is_name", [Str.ofString "value"]),
  (Str.ofString "desk_count", [Str.ofString "word"]),
  (Str.ofString "desk_reading", [Str.ofString "word"]),
  (Str.ofString "desk_list", [Str.ofString "word"]),
  (Str.ofString "desk_number_part", [Str.ofString "kind", Str.ofString "word"]),
  (Str.ofString "desk_part", [Str.ofString "kind", Str.ofString "word"]),
  (Str.ofString "desk_kinds", [Str.ofString "words"]),
  (Str.ofString "desk_written_parts", [Str.ofString "value"]),
  (Str.ofString "desk_teach_parts", [Str.ofString "value"]),
  (Str.ofString "desk_parts", [Str.ofString "value"]),
  (Str.ofString "is_command", [Str.ofString "value"]),
  (Str.ofString "is_deed", [Str.ofString "value"]),
  (Str.ofString "_law_pot", [Str.ofString "script", Str.ofString "k"]),
  (Str.ofString "_law_draw", [Str.ofString "pot", Str.ofString "size"]),
  (Str.ofString "_law_pick", [Str.ofString "pot", Str.ofString "some"]),
  (Str.ofString "_law_table", []),
  (Str.ofString "_law_claims", []),
  (Str.ofString "_law_is_name", [Str.ofString "word"]),
  (Str.ofString "_law_is_figures", [Str.ofString "word", Str.ofString "most"]),
  (Str.ofString "_law_is_signed", [Str.ofString "word", Str.ofString "most"]),
  (Str.ofString "_law_gcd", [Str.ofString "one", Str.ofString "other"]),
  (Str.ofString "_law_fraction", [Str.ofString "word"]),
  (Str.ofString "_law_is_part", [Str.ofString "kind", Str.ofString "word"]),
  (Str.ofString "_law_due", [Str.ofString "words"]),
  (Str.ofString "_law_part", [Str.ofString "pot", Str.ofString "kind"]),
  (Str.ofString "_law_odd", [Str.ofString "pot"]),
  (Str.ofString "_law_words", [Str.ofString "pot"]),
  (Str.ofString "_law_bent", [Str.ofString "pot", Str.ofString "words"]),
  (Str.ofString "_law_written", [Str.ofString "pot"]),
  (Str.ofString "_law_asked_right", [Str.ofString "value", Str.ofString "due"]),
  (Str.ofString "law", [Str.ofString "script"])]
def Ns : List (List Str) := [[Str.ofString "value"],
  [Str.ofString "value", Str.ofString "least", Str.ofString "most"],
  [Str.ofString "above", Str.ofString "below", Str.ofString "shared"],
  [Str.ofString "a", Str.ofString "b"],
  [Str.ofString "a", Str.ofString "b"],
  [Str.ofString "value"],
  [Str.ofString "value"],
  [Str.ofString "value"],
  [Str.ofString "text", Str.ofString "sign"],
  [Str.ofString "text", Str.ofString "is_below", Str.ofString "parts", Str.ofString "numbers", Str.ofString "above", Str.ofString "part"],
  [Str.ofString "text", Str.ofString "ends", Str.ofString "part"],
  [Str.ofString "value"],
  [Str.ofString "value", Str.ofString "one"],
  [Str.ofString "value"],
  [Str.ofString "letters", Str.ofString "gears", Str.ofString "value"],
  [Str.ofString "letters", Str.ofString "gears", Str.ofString "value", Str.ofString "heads", Str.ofString "gear", Str.ofString "letter", Str.ofString "one"],
  [Str.ofString "value", Str.ofString "one"],
  [Str.ofString "value", Str.ofString "one", Str.ofString "other"],
  [Str.ofString "value"],
  [Str.ofString "value", Str.ofString "one"],
  [Str.ofString "sensors", Str.ofString "value", Str.ofString "one", Str.ofString "other"],
  [Str.ofString "sensors", Str.ofString "value", Str.ofString "one"],
  [Str.ofString "value", Str.ofString "word", Str.ofString "letters", Str.ofString "limits", Str.ofString "options", Str.ofString "sensors", Str.ofString "duties"],
  [Str.ofString "plant", Str.ofString "word", Str.ofString "value"],
  [Str.ofString "plant", Str.ofString "value", Str.ofString "deep", Str.ofString "one"],
  [Str.ofString "condition"],
  [Str.ofString "condition", Str.ofString "one"],
  [Str.ofString "plant", Str.ofString "value"],
  [Str.ofString "plant", Str.ofString "value"],
  [Str.ofString "plant", Str.ofString "value", Str.ofString "row"],
  [Str.ofString "text", Str.ofString "begin", Str.ofString "signs", Str.ofString "most", Str.ofString "end"],
  [Str.ofString "text", Str.ofString "begin", Str.ofString "sign", Str.ofString "behind"],
  [Str.ofString "text", Str.ofString "found", Str.ofString "sign"],
  [Str.ofString "text", Str.ofString "begun", Str.ofString "at", Str.ofString "is_free", Str.ofString "sign", Str.ofString "here", Str.ofString "end"],
  [Str.ofString "value", Str.ofString "one"],
  [Str.ofString "events", Str.ofString "gone", Str.ofString "made", Str.ofString "value", Str.ofString "word", Str.ofString "parts"],
  [Str.ofString "value", Str.ofString "events", Str.ofString "gone", Str.ofString "made", Str.ofString "event"],
  [Str.ofString "options", Str.ofString "gear", Str.ofString "letter"],
  [Str.ofString "sort", Str.ofString "value", Str.ofString "one"],
  [Str.ofString "sort", Str.ofString "text", Str.ofString "is_whole", Str.ofString "found"],
  [Str.ofString "value", Str.ofString "sign"],
  [Str.ofString "word", Str.ofString "sign"],
  [Str.ofString "word", Str.ofString "found"],
  [Str.ofString "word", Str.ofString "words", Str.ofString "found", Str.ofString "one"],
  [Str.ofString "kind", Str.ofString "word"],
  [Str.ofString "kind", Str.ofString "word"],
  [Str.ofString "words", Str.ofString "word"],
  [Str.ofString "value", Str.ofString "parts", Str.ofString "found"],
  [Str.ofString "value", Str.ofString "parts"],
  [Str.ofString "value", Str.ofString "words", Str.ofString "kinds", Str.ofString "found", Str.ofString "kind", Str.ofString "word", Str.ofString "one"],
  [Str.ofString "value"],
  [Str.ofString "value", Str.ofString "found"],
  [Str.ofString "script", Str.ofString "k", Str.ofString "cell"],
  [Str.ofString "pot", Str.ofString "size", Str.ofString "digit"],
  [Str.ofString "pot", Str.ofString "some"],
  [Str.ofString "deeds", Str.ofString "asked", Str.ofString "found", Str.ofString "row"],
  [Str.ofString "rows", Str.ofString "row"],
  [Str.ofString "word", Str.ofString "sign"],
  [Str.ofString "word", Str.ofString "most", Str.ofString "sign"],
  [Str.ofString "word", Str.ofString "most"],
  [Str.ofString "one", Str.ofString "other"],
  [Str.ofString "word", Str.ofString "parts", Str.ofString "above", Str.ofString "below"],
  [Str.ofString "kind", Str.ofString "word", Str.ofString "some", Str.ofString "ends", Str.ofString "one", Str.ofString "part"],
  [Str.ofString "words", Str.ofString "word", Str.ofString "kinds", Str.ofString "is_own", Str.ofString "is_one", Str.ofString "kind", Str.ofString "part"],
  [Str.ofString "pot", Str.ofString "kind"],
  [Str.ofString "pot", Str.ofString "some"],
  [Str.ofString "pot", Str.ofString "word", Str.ofString "kinds", Str.ofString "is_own", Str.ofString "kind"],
  [Str.ofString "pot", Str.ofString "words", Str.ofString "at", Str.ofString "way"],
  [Str.ofString "pot", Str.ofString "some"],
  [Str.ofString "value", Str.ofString "due"],
  [Str.ofString "script", Str.ofString "k", Str.ofString "pot", Str.ofString "turn", Str.ofString "words", Str.ofString "bent", Str.ofString "text", Str.ofString "is_one", Str.ofString "word", Str.ofString "value"]]
def fns : List Fn := [f0, f1, f2, f3, f4, f5, f6, f7, f8, f9, f10, f11, f12, f13, f14, f15, f16, f17, f18, f19, f20, f21, f22, f23, f24, f25, f26, f27, f28, f29, f30, f31, f32, f33, f34, f35, f36, f37, f38, f39, f40, f41, f42, f43, f44, f45, f46, f47, f48, f49, f50, f51, f52, f53, f54, f55, f56, f57, f58, f59, f60, f61, f62, f63, f64, f65, f66, f67, f68, f69, f70]
def md : Md where
  csts := [(Str.ofString "NOUGHT", PyData.tuple [PyData.int 0, PyData.int 1]),
    (Str.ofString "MOST_SHORT", PyData.int 1000000000),
    (Str.ofString "MOST_BELOW", PyData.int 60),
    (Str.ofString "BETWEEN", PyData.str (Str.ofString "..")),
    (Str.ofString "FIGURES_plaintexts", PyData.str (Str.ofString "0123456789")),
    (Str.ofString "MOST_LETTERS", PyData.int 3),
    (Str.ofString "MOST_GEARS", PyData.int 6),
    (Str.ofString "MOST_OPTIONS", PyData.int 40),
    (Str.ofString "MOST_OF_ONE", PyData.int 12),
    (Str.ofString "MOST_SENSORS", PyData.int 4),
    (Str.ofString "MOST_MARKS", PyData.int 6),
    (Str.ofString "MOST_DUTIES", PyData.int 6),
    (Str.ofString "MOST_ACTS", PyData.int 24),
    (Str.ofString "MOST_MOMENT", PyData.int 1000),
    (Str.ofString "FACTOR_UNDER", PyData.int 8),
    (Str.ofString "GREATEST_FACTOR", PyData.tuple [PyData.int 8, PyData.int 1]),
    (Str.ofString "GRID", PyData.str (Str.ofString "grid")),
    (Str.ofString "MARKS", PyData.str (Str.ofString "marks")),
    (Str.ofString "MOST_MADE", PyData.int 60),
    (Str.ofString "MOST_EVENTS", PyData.int 200),
    (Str.ofString "LOG_logs", PyData.str (Str.ofString "log")),
    (Str.ofString "MADE", PyData.str (Str.ofString "made")),
    (Str.ofString "READ", PyData.str (Str.ofString "read")),
    (Str.ofString "VOID", PyData.str (Str.ofString "void")),
    (Str.ofString "LEAST", PyData.str (Str.ofString "least")),
    (Str.ofString "MOST", PyData.str (Str.ofString "most")),
    (Str.ofString "SURELY", PyData.str (Str.ofString "surely")),
    (Str.ofString "PERHAPS", PyData.str (Str.ofString "perhaps")),
    (Str.ofString "GEAR", PyData.str (Str.ofString "gear")),
    (Str.ofString "LETTER", PyData.str (Str.ofString "letter")),
    (Str.ofString "FROM", PyData.str (Str.ofString "from")),
    (Str.ofString "BEFORE", PyData.str (Str.ofString "before")),
    (Str.ofString "NOT", PyData.str (Str.ofString "not")),
    (Str.ofString "BOTH", PyData.str (Str.ofString "both")),
    (Str.ofString "EITHER", PyData.str (Str.ofString "either")),
    (Str.ofString "ORDERS_orders", PyData.str (Str.ofString "orders")),
    (Str.ofString "MOST_PARTS", PyData.int 20),
    (Str.ofString "MOST_DEEP", PyData.int 6),
    (Str.ofString "MOST_ROWS", PyData.int 240),
    (Str.ofString "MOST_PLACE", PyData.int 11),
    (Str.ofString "MOST_WORD", PyData.int 12),
    (Str.ofString "SORTS", PyData.tuple [PyData.str (Str.ofString "plant"), PyData.str (Str.ofString "task"), PyData.str (Str.ofString "known"), PyData.str (Str.ofString "target"), PyData.str (Str.ofString "orders"), PyData.str (Str.ofString "log")]),
    (Str.ofString "FIGURES_written", PyData.str (Str.ofString "0123456789")),
    (Str.ofString "SMALL", PyData.str (Str.ofString "abcdefghijklmnopqrstuvwxyz")),
    (Str.ofString "GREATEST_READING", PyData.int 9999999999999999999999999999999),
    (Str.ofString "DESK_LETTERS", PyData.str (Str.ofString "abcdefghijklmnopqrstuvwxyz")),
    (Str.ofString "DESK_SIGNS", PyData.str (Str.ofString "abcdefghijklmnopqrstuvwxyz0123456789")),
    (Str.ofString "DESK_FIGURES", PyData.str (Str.ofString "0123456789")),
    (Str.ofString "DESK_NONE", PyData.str (Str.ofString "-")),
    (Str.ofString "MOST_DESK_NAME", PyData.int 8),
    (Str.ofString "MOST_DESK_FIGURES", PyData.int 6),
    (Str.ofString "MOST_DESK_ELEMENTS", PyData.int 96),
    (Str.ofString "MOST_DESK_SIGNS", PyData.int 40),
    (Str.ofString "WORD", PyData.str (Str.ofString "word")),
    (Str.ofString "COUNT", PyData.str (Str.ofString "number")),
    (Str.ofString "READING", PyData.str (Str.ofString "reading")),
    (Str.ofString "LIST", PyData.str (Str.ofString "list")),
    (Str.ofString "FRACTION", PyData.str (Str.ofString "fraction")),
    (Str.ofString "STRETCH", PyData.str (Str.ofString "stretch")),
    (Str.ofString "TEACH", PyData.str (Str.ofString "teach"))]
  dics := [(Str.ofString "DESK_CLAIMS", [(Str.ofString "held", PyData.tuple [PyData.str (Str.ofString "plant"), PyData.str (Str.ofString "task"), PyData.str (Str.ofString "known")]), (Str.ofString "unheld", PyData.tuple [PyData.str (Str.ofString "plant"), PyData.str (Str.ofString "task"), PyData.str (Str.ofString "known")]), (Str.ofString "orderly", PyData.tuple [PyData.str (Str.ofString "plant"), PyData.str (Str.ofString "task"), PyData.str (Str.ofString "known"), PyData.str (Str.ofString "orders")]), (Str.ofString "unruly", PyData.tuple [PyData.str (Str.ofString "plant"), PyData.str (Str.ofString "task"), PyData.str (Str.ofString "known"), PyData.str (Str.ofString "orders")]), (Str.ofString "endless", PyData.tuple [PyData.str (Str.ofString "plant"), PyData.str (Str.ofString "known")]), (Str.ofString "ending", PyData.tuple [PyData.str (Str.ofString "plant"), PyData.str (Str.ofString "known")]), (Str.ofString "coming", PyData.tuple [PyData.str (Str.ofString "plant"), PyData.str (Str.ofString "target"), PyData.str (Str.ofString "known"), PyData.str (Str.ofString "number")]), (Str.ofString "far", PyData.tuple [PyData.str (Str.ofString "plant"), PyData.str (Str.ofString "target"), PyData.str (Str.ofString "known"), PyData.str (Str.ofString "number")]), (Str.ofString "can", PyData.tuple [PyData.str (Str.ofString "plant"), PyData.str (Str.ofString "log"), PyData.str (Str.ofString "number"), PyData.str (Str.ofString "fraction")]), (Str.ofString "cannot", PyData.tuple [PyData.str (Str.ofString "plant"), PyData.str (Str.ofString "log"), PyData.str (Str.ofString "number"), PyData.str (Str.ofString "fraction")]), (Str.ofString "sound", PyData.tuple [PyData.str (Str.ofString "plant"), PyData.str (Str.ofString "log")]), (Str.ofString "clashing", PyData.tuple [PyData.str (Str.ofString "plant"), PyData.str (Str.ofString "log")]), (Str.ofString "right", PyData.tuple [PyData.str (Str.ofString "plant"), PyData.str (Str.ofString "log"), PyData.str (Str.ofString "number")]), (Str.ofString "few", PyData.tuple [PyData.str (Str.ofString "plant"), PyData.str (Str.ofString "log"), PyData.str (Str.ofString "number")])]),
    (Str.ofString "DESK_DEEDS", [(Str.ofString "shift", PyData.tuple [PyData.str (Str.ofString "plant"), PyData.str (Str.ofString "fraction")]), (Str.ofString "enlarge", PyData.tuple [PyData.str (Str.ofString "plant"), PyData.str (Str.ofString "fraction")]), (Str.ofString "mirror", PyData.tuple [PyData.str (Str.ofString "plant")]), (Str.ofString "gears", PyData.tuple [PyData.str (Str.ofString "plant"), PyData.str (Str.ofString "list")]), (Str.ofString "letters", PyData.tuple [PyData.str (Str.ofString "plant"), PyData.str (Str.ofString "list")]), (Str.ofString "limit", PyData.tuple [PyData.str (Str.ofString "plant"), PyData.str (Str.ofString "number"), PyData.str (Str.ofString "stretch")]), (Str.ofString "strike", PyData.tuple [PyData.str (Str.ofString "plant"), PyData.str (Str.ofString "number")]), (Str.ofString "option", PyData.tuple [PyData.str (Str.ofString "plant"), PyData.str (Str.ofString "number"), PyData.str (Str.ofString "number"), PyData.str (Str.ofString "number"), PyData.str (Str.ofString "fraction"), PyData.str (Str.ofString "stretch")]), (Str.ofString "duty", PyData.tuple [PyData.str (Str.ofString "plant"), PyData.str (Str.ofString "number"), PyData.str (Str.ofString "list")]), (Str.ofString "made", PyData.tuple [PyData.str (Str.ofString "log"), PyData.str (Str.ofString "plant"), PyData.str (Str.ofString "number")]), (Str.ofString "read", PyData.tuple [PyData.str (Str.ofString "log"), PyData.str (Str.ofString "plant"), PyData.str (Str.ofString "number"), PyData.str (Str.ofString "number"), PyData.str (Str.ofString "reading")]), (Str.ofString "void", PyData.tuple [PyData.str (Str.ofString "log"), PyData.str (Str.ofString "plant"), PyData.str (Str.ofString "number")]), (Str.ofString "tidy", PyData.tuple [PyData.str (Str.ofString "log"), PyData.str (Str.ofString "plant")]), (Str.ofString "now", PyData.tuple [PyData.str (Str.ofString "new"), PyData.str (Str.ofString "plant"), PyData.str (Str.ofString "log")]), (Str.ofString "go", PyData.tuple [PyData.str (Str.ofString "known"), PyData.str (Str.ofString "plant"), PyData.str (Str.ofString "number"), PyData.str (Str.ofString "list")]), (Str.ofString "order", PyData.tuple [PyData.str (Str.ofString "new"), PyData.str (Str.ofString "plant"), PyData.str (Str.ofString "task")]), (Str.ofString "plain", PyData.tuple [PyData.str (Str.ofString "orders"), PyData.str (Str.ofString "plant")]), (Str.ofString "copy", PyData.tuple [PyData.str (Str.ofString "new"), PyData.str (Str.ofString "name")]), (Str.ofString "drop", PyData.tuple [PyData.str (Str.ofString "name")]), (Str.ofString "claim", PyData.tuple [PyData.str (Str.ofString "label"), PyData.str (Str.ofString "word")]), (Str.ofString "forget", PyData.tuple [PyData.str (Str.ofString "label")])]),
    (Str.ofString "DESK_ASKED", [(Str.ofString "undo", PyData.tuple []), (Str.ofString "redo", PyData.tuple []), (Str.ofString "state", PyData.tuple [PyData.str (Str.ofString "label")]), (Str.ofString "states", PyData.tuple []), (Str.ofString "claimed", PyData.tuple [PyData.str (Str.ofString "label")]), (Str.ofString "names", PyData.tuple []), (Str.ofString "show", PyData.tuple [PyData.str (Str.ofString "name")]), (Str.ofString "same", PyData.tuple [PyData.str (Str.ofString "name"), PyData.str (Str.ofString "other")]), (Str.ofString "holds", PyData.tuple [PyData.str (Str.ofString "plant"), PyData.str (Str.ofString "task"), PyData.str (Str.ofString "number"), PyData.str (Str.ofString "number")]), (Str.ofString "sure", PyData.tuple [PyData.str (Str.ofString "plant"), PyData.str (Str.ofString "task"), PyData.str (Str.ofString "known"), PyData.str (Str.ofString "number")]), (Str.ofString "room", PyData.tuple [PyData.str (Str.ofString "plant"), PyData.str (Str.ofString "task"), PyData.str (Str.ofString "known")]), (Str.ofString "lasts", PyData.tuple [PyData.str (Str.ofString "plant"), PyData.str (Str.ofString "known")]), (Str.ofString "comes", PyData.tuple [PyData.str (Str.ofString "plant"), PyData.str (Str.ofString "target"), PyData.str (Str.ofString "known"), PyData.str (Str.ofString "number")]), (Str.ofString "told", PyData.tuple [PyData.str (Str.ofString "plant"), PyData.str (Str.ofString "number"), PyData.str (Str.ofString "stretch")]), (Str.ofString "knows", PyData.tuple [PyData.str (Str.ofString "plant"), PyData.str (Str.ofString "log"), PyData.str (Str.ofString "number")]), (Str.ofString "clashes", PyData.tuple [PyData.str (Str.ofString "plant"), PyData.str (Str.ofString "log")]), (Str.ofString "named", PyData.tuple [PyData.str (Str.ofString "plant"), PyData.str (Str.ofString "orders"), PyData.str (Str.ofString "known"), PyData.str (Str.ofString "number")])])]
  fns := names.map (·.1)
def pr : Pr where
  names := names
  fns := fns
  dics := fun x => md.dics.lookup x
  cst := cstOf md
  fuel := 2000
abbrev body : List Stmt := PySem.Challenge.pw_surelyheld_k95_any_string_as_a_command.main.body
def ds := defsOf body
end K95
set_option linter.all false
set_option autoImplicit false
set_option maxRecDepth 100000
set_option maxHeartbeats 1000000
namespace K95
open PySem Sh
def PotAt (n : Nat) (s : Cells) : Prop := ∃ a b : Int, s[n]? = some (.lst [.p (.int a), .p (.int b)]) ∧ 0 ≤ b ∧ b < 2147483587
theorem ixRef {P : Pg} {n : Nat} {s : Cells} {xs : List Vl} {i : Int} {v : Vl} (h : s[n]? = some (.lst xs)) (e : L2.atI xs i = some v) : ixV P (.ref n) (.p (.int i)) s = some v := by
  show (seqOf s (.ref n)).bind (fun xs => L2.atI xs i) = _
  have : seqOf s (.ref n) = some xs := by
    show (match s[n]? with | some (.lst xs) => some xs | _ => none) = _
    rw [h]
  rw [this]
  exact e
theorem set_at {s : Cells} {n : Nat} {xs ys : List Vl} (h : s[n]? = some (.lst xs)) : (setCell s n ys)[n]? = some (.lst ys) := by
  unfold setCell
  exact List.getElem?_set_self (List.getElem?_eq_some_iff.mp h).1
theorem mul_ok {i j : Int} {s : Cells} (h : small64 i = true ∨ small64 j = true) : binV .mul (.p (.int i)) (.p (.int j)) s = some (.int (i * j)) := by
  show (if (small64 i || small64 j) = true then some (PyData.int (i * j)) else none) = _
  rw [if_pos (by rcases h with h | h <;> simp [h])]
theorem mod_ok {i : Int} (j : Int) {s : Cells} (h : 0 < j) : binV .mod (.p (.int i)) (.p (.int j)) s = some (.int (i % j)) := by
  show (if decide (0 < j) = true then some (PyData.int (i % j)) else none) = _
  rw [if_pos (decide_eq_true h)]
theorem fdiv_ok {i : Int} (j : Int) {s : Cells} (h : 0 < j) (h2 : j < 1073741824) : binV .fdiv (.p (.int i)) (.p (.int j)) s = some (.int (i / j)) := by
  show (if (decide (0 < j) && decide (j < 1073741824)) = true then some (PyData.int (i / j)) else none) = _
  rw [if_pos (by simp [h, h2])]
theorem draw {d n : Nat} {size : Int} {s : Cells} (h : PotAt n s) (h1 : 1 ≤ size) (h2 : size < 1073741824) :
    Okk (callF pr (d + 1) 53 [.ref n, .p (.int size)] s) fun v s' => PotAt n s' ∧ ∃ r, v = .p (.int r) ∧ 0 ≤ r ∧ r < size := by
  obtain ⟨a, b, hs, hb0, hb1⟩ := h
  refine callN (F := f53) rfl rfl rfl rfl ?_
  refine wBcons (wIfs (wCmp (wIx (wVar rfl (wInt ⟨.p (.int a), ixRef hs rfl, wInt ⟨decide (0 < a), rfl, decide (0 < a), rfl, ?_⟩⟩)))))
  cases ha : decide (0 < a) with
  | true =>
    have hdm : Okk (bltV (pgOf pr d) .divmod [.p (.int a), .p (.int size)] s) fun v s' => v = .p (.tuple [.int (a / size), .int (a % size)]) ∧ s' = s := by
      refine ⟨_, s, ?_, rfl, rfl⟩
      show (if (decide (0 < size) && decide (size < 1073741824)) = true then O.ok (Vl.p (.tuple [.int (a / size), .int (a % size)])) s else .bad) = _
      rw [if_pos (by simp [h2]; omega)]
    refine wBcons (wAsg (wBlt (wCons (wIx (wVar rfl (wInt ⟨.p (.int a), ixRef hs rfl, wCons (wVar rfl (wNil (hdm.mono ?_)))⟩))))))
    rintro v s' ⟨rfl, rfl⟩
    refine wTp rfl (wTcons (wSub (wVar rfl (wInt ⟨n, 0, _, 0, rfl, rfl, hs, rfl, wTcons (wNm (wTnil ?_))⟩))))
    refine wBcons (wRet (wVar rfl ?_))
    refine ⟨⟨a / size, b, set_at hs, hb0, hb1⟩, a % size, rfl, Int.emod_nonneg _ (by omega), Int.emod_lt_of_pos _ (by omega)⟩
  | false =>
    refine wBnil ?_
    refine wBcons (wAsg (wBin (wBlt (wCons (wBin (wBin (wIx (wVar rfl (wInt ⟨.p (.int b), ixRef hs rfl, ?_⟩)))))))))
    refine wInt ⟨_, mul_ok (.inr rfl), wInt ⟨_, rfl, wNil (.eq rfl (wInt ⟨_, mod_ok 2147483587 (by decide), ?_⟩))⟩⟩
    refine wSub (wVar rfl (wInt ⟨n, 1, _, 1, rfl, rfl, hs, rfl, ?_⟩))
    have hb' := Int.emod_nonneg (b * 40692 + 7577) (show (2147483587 : Int) ≠ 0 by decide)
    have hb'' := Int.emod_lt_of_pos (b * 40692 + 7577) (show (0 : Int) < 2147483587 by decide)
    generalize (b * 40692 + 7577) % 2147483587 = c at hb' hb''
    have hs2 := set_at (ys := [.p (.int a), .p (.int c)]) hs
    show thenB _ _ _ _ (setCell s n [.p (.int a), .p (.int c)])
    generalize setCell s n [.p (.int a), .p (.int c)] = s2 at hs2
    have hc : small64 c = true := by
      unfold small64
      simp
      omega
    refine wBcons (wRet (wBin (wBlt (wCons (wBin (wBin (wBlt (wCons (wBin (wIx (wVar rfl (wInt ⟨.p (.int c), ixRef hs2 rfl, ?_⟩))))))))))))
    refine wIx (wVar rfl (wInt ⟨.p (.int c), ixRef hs2 rfl, _, mul_ok (.inl hc), wNil (.eq rfl (wInt ⟨_, mod_ok 2147483549 (by decide), ?_⟩))⟩))
    refine wInt ⟨_, fdiv_ok 19 (by decide) (by decide), wNil (.eq rfl (wVar rfl ⟨_, mod_ok size (by omega), ?_⟩))⟩
    exact ⟨⟨a, c, hs2, hb', hb''⟩, _, rfl, Int.emod_nonneg _ (by omega), Int.emod_lt_of_pos _ (by omega)⟩
theorem atI_mem {α : Type} {xs : List α} {r : Int} (h0 : 0 ≤ r) (h1 : r < xs.length) : ∃ x ∈ xs, L2.atI xs r = some x := by
  have hl : r.toNat < xs.length := by omega
  refine ⟨xs[r.toNat], List.getElem_mem hl, ?_⟩
  unfold L2.atI L2.ixN
  rw [if_pos h0, if_pos h1]
  exact List.getElem?_eq_getElem hl
/-- some[draw] -/
theorem pick {d n : Nat} {xs : List PyData} {s : Cells} (h : PotAt n s) (h1 : 1 ≤ xs.length) (h2 : xs.length < 1073741824) :
    Okk (callF pr (d + 2) 54 [.ref n, .p (.list xs)] s) fun v s' => PotAt n s' ∧ ∃ x ∈ xs, v = .p x := by
  refine callN (F := f54) rfl rfl rfl rfl ?_
  refine wBcons (wRet (wIx (wVar rfl (wCall (wCons (wVar rfl (wCons (wBlt (wCons (wVar rfl (wNil (.eq (s := s) (a := .p (.int xs.length)) ?_ (wNil ?_)))))))))))))
  · show (match seqOf s (.p (.list xs)) with | some ys => O.ok (Vl.p (.int ys.length)) s | none => .bad) = _
    show O.ok (Vl.p (.int (xs.map Vl.p).length)) s = _
    rw [List.length_map]
  · refine (draw h (by omega) (by omega)).mono fun v s' ⟨hp, r, e, r0, r1⟩ => ?_
    subst e
    obtain ⟨x, hx, ex⟩ := atI_mem (xs := xs.map Vl.p) r0 (by rw [List.length_map]; exact r1)
    obtain ⟨y, hy, rfl⟩ := List.mem_map.mp hx
    exact ⟨.p y, ex, hp, y, hy, rfl⟩
section
variable {P : Pg} {sl : Sl} {s : Cells} {Q : Out → Cells → Prop}
theorem ifsEqF {i : Nat} {x y : Str} {a b : BL} (e : sl[i]? = some (some (.p (.str x)))) (h : (x == y) = false) (q : Okk (evB P b sl s) Q) : Okk (evS P (.ifs (.cmp .eq (.var i) (.str y)) a b) sl s) Q := by
  refine wIfs (wCmp (wVar e (wStr ⟨x == y, rfl, x == y, rfl, ?_⟩)))
  rw [h]
  exact q
theorem ifsEqT {i : Nat} {x y : Str} {a b : BL} (e : sl[i]? = some (some (.p (.str x)))) (h : (x == y) = true) (q : Okk (evB P a sl s) Q) : Okk (evS P (.ifs (.cmp .eq (.var i) (.str y)) a b) sl s) Q := by
  refine wIfs (wCmp (wVar e (wStr ⟨x == y, rfl, x == y, rfl, ?_⟩)))
  rw [h]
  exact q
end
def S (xs : List String) : List Str := xs.map Str.ofString
def j96 : Str := Txt.join (Str.ofString ",") (List.replicate 96 (Str.ofString "7"))
def menuN : List Str := S ["a", "p1", "abcdefgh", "z9", "undo", "plant", "held"]
def menuC : List Str := S ["0", "7", "10", "999999"]
def menuR : List Str := S ["0", "-1", "-999999", "12"]
def menuL : List Str := S ["-", "0", "1,0", "-3,4,-5"] ++ [j96]
def o31 : String := "1111111111111111111111111111111"
def menuF : List Str := S ["0", "-1/2", "7", "22/7", o31, o31 ++ "/10000000", "-777777777777777777777777777777/2"]
def menuS : List Str := S ["0..0", "-1/2..3", "1/3..1/2", "7..9", "1111111111111111111..1111111111111111111"]
theorem part {d n : Nat} {s : Cells} (h : PotAt n s) {k : Str} {m : List Str} (hk : (k, m) ∈ [(Str.ofString "n", menuN), (Str.ofString "c", menuC), (Str.ofString "r", menuR), (Str.ofString "l", menuL), (Str.ofString "f", menuF), (Str.ofString "s", menuS)]) :
    Okk (callF pr (d + 3) 64 [.ref n, .p (.str k)] s) fun v s' => PotAt n s' ∧ ∃ x ∈ m, v = .p (.str x) := by
  have fin : ∀ (m : List Str) (h1 : 1 ≤ m.length) (h2 : m.length < 100), Okk (callF pr (d + 2) 54 [.ref n, .p (.list (m.map .str))] s) fun v s' => PotAt n s' ∧ ∃ x ∈ m, v = .p (.str x) := fun m h1 h2 => by
    refine (pick h (by rw [List.length_map]; exact h1) (by rw [List.length_map]; omega)).mono fun v s' ⟨hp, x, hx, e⟩ => ?_
    obtain ⟨y, hy, rfl⟩ := List.mem_map.mp hx
    exact ⟨hp, y, hy, e⟩
  refine callN (F := f64) rfl rfl rfl rfl ?_
  simp only [List.mem_cons, Prod.mk.injEq, List.not_mem_nil, or_false] at hk
  rcases hk with ⟨rfl, rfl⟩ | ⟨rfl, rfl⟩ | ⟨rfl, rfl⟩ | ⟨rfl, rfl⟩ | ⟨rfl, rfl⟩ | ⟨rfl, rfl⟩
  · refine wBcons (ifsEqT rfl (by decide) (wBcons (wRet (wCall (wCons (wVar rfl (wCons (.eq (a := .p (.list (menuN.map .str))) (s := s) (by kernel_rfl) (wNil ?_)))))))))
    exact fin menuN (by decide) (by decide)
  · refine wBcons (ifsEqF rfl (by decide) (wBnil ?_))
    refine wBcons (ifsEqT rfl (by decide) (wBcons (wRet (wCall (wCons (wVar rfl (wCons (.eq (a := .p (.list (menuC.map .str))) (s := s) (by kernel_rfl) (wNil ?_)))))))))
    exact fin menuC (by decide) (by decide)
  · refine wBcons (ifsEqF rfl (by decide) (wBnil ?_))
    refine wBcons (ifsEqF rfl (by decide) (wBnil ?_))
    refine wBcons (ifsEqT rfl (by decide) (wBcons (wRet (wCall (wCons (wVar rfl (wCons (.eq (a := .p (.list (menuR.map .str))) (s := s) (by kernel_rfl) (wNil ?_)))))))))
    exact fin menuR (by decide) (by decide)
  · refine wBcons (ifsEqF rfl (by decide) (wBnil ?_))
    refine wBcons (ifsEqF rfl (by decide) (wBnil ?_))
    refine wBcons (ifsEqF rfl (by decide) (wBnil ?_))
    refine wBcons (ifsEqT rfl (by decide) (wBcons (wRet (wCall (wCons (wVar rfl (wCons (.eq (a := .p (.list (menuL.map .str))) (s := s) (by kernel_rfl) (wNil ?_)))))))))
    exact fin menuL (by decide) (by decide)
  · refine wBcons (ifsEqF rfl (by decide) (wBnil ?_))
    refine wBcons (ifsEqF rfl (by decide) (wBnil ?_))
    refine wBcons (ifsEqF rfl (by decide) (wBnil ?_))
    refine wBcons (ifsEqF rfl (by decide) (wBnil ?_))
    refine wBcons (ifsEqT rfl (by decide) (wBcons (wRet (wCall (wCons (wVar rfl (wCons (.eq (a := .p (.list (menuF.map .str))) (s := s) (by kernel_rfl) (wNil ?_)))))))))
    exact fin menuF (by decide) (by decide)
  · refine wBcons (ifsEqF rfl (by decide) (wBnil ?_))
    refine wBcons (ifsEqF rfl (by decide) (wBnil ?_))
    refine wBcons (ifsEqF rfl (by decide) (wBnil ?_))
    refine wBcons (ifsEqF rfl (by decide) (wBnil ?_))
    refine wBcons (ifsEqF rfl (by decide) (wBnil ?_))
    refine wBcons (wRet (wCall (wCons (wVar rfl (wCons (.eq (a := .p (.list (menuS.map .str))) (s := s) (by kernel_rfl) (wNil ?_)))))))
    exact fin menuS (by decide) (by decide)
def tbl : List (Str × Str × Bool) := [(Str.ofString "shift", Str.ofString "nf", true), (Str.ofString "enlarge", Str.ofString "nf", true), (Str.ofString "mirror", Str.ofString "n", true), (Str.ofString "gears", Str.ofString "nl", true), (Str.ofString "letters", Str.ofString "nl", true), (Str.ofString "limit", Str.ofString "ncs", true), (Str.ofString "option", Str.ofString "ncccfs", true), (Str.ofString "strike", Str.ofString "nc", true), (Str.ofString "duty", Str.ofString "ncl", true), (Str.ofString "made", Str.ofString "nnc", true), (Str.ofString "read", Str.ofString "nnccr", true), (Str.ofString "void", Str.ofString "nnc", true), (Str.ofString "tidy", Str.ofString "nn", true), (Str.ofString "now", Str.ofString "nnn", true), (Str.ofString "go", Str.ofString "nncl", true), (Str.ofString "order", Str.ofString "nnn", true), (Str.ofString "plain", Str.ofString "nn", true), (Str.ofString "copy", Str.ofString "nn", true), (Str.ofString "drop", Str.ofString "n", true), (Str.ofString "forget", Str.ofString "n", true), (Str.ofString "undo", Str.ofString "", false), (Str.ofString "redo", Str.ofString "", false), (Str.ofString "state", Str.ofString "n", false), (Str.ofString "states", Str.ofString "", false), (Str.ofString "claimed", Str.ofString "n", false), (Str.ofString "names", Str.ofString "", false), (Str.ofString "show", Str.ofString "n", false), (Str.ofString "same", Str.ofString "nn", false), (Str.ofString "holds", Str.ofString "nncc", false), (Str.ofString "sure", Str.ofString "nnnc", false), (Str.ofString "room", Str.ofString "nnn", false), (Str.ofString "lasts", Str.ofString "nn", false), (Str.ofString "comes", Str.ofString "nnnc", false), (Str.ofString "told", Str.ofString "ncs", false), (Str.ofString "knows", Str.ofString "nnc", false), (Str.ofString "clashes", Str.ofString "nn", false), (Str.ofString "named", Str.ofString "nnnc", false)]
def cls : List (Str × Str) := [(Str.ofString "held", Str.ofString "nnn"), (Str.ofString "orderly", Str.ofString "nnnn"), (Str.ofString "endless", Str.ofString "nn"), (Str.ofString "coming", Str.ofString "nnnc"), (Str.ofString "can", Str.ofString "nncf"), (Str.ofString "sound", Str.ofString "nn"), (Str.ofString "right", Str.ofString "nnc"), (Str.ofString "unheld", Str.ofString "nnn"), (Str.ofString "unruly", Str.ofString "nnnn"), (Str.ofString "ending", Str.ofString "nn"), (Str.ofString "far", Str.ofString "nnnc"), (Str.ofString "cannot", Str.ofString "nncf"), (Str.ofString "clashing", Str.ofString "nn"), (Str.ofString "few", Str.ofString "nnc")]
def rowD (r : Str × Str × Bool) : PyData := .list [.str r.1, .str r.2.1, .bool r.2.2]
def clsD (r : Str × Str) : PyData := .list [.str r.1, .str r.2]
theorem table_ev (d : Nat) (s : Cells) : callF pr (d + 1) 55 [] s = .ok (.p (.list (tbl.map rowD))) s := by kernel_rfl
theorem claims_ev (d : Nat) (s : Cells) : callF pr (d + 1) 56 [] s = .ok (.p (.list (cls.map clsD))) s := by kernel_rfl
def menus : List (Str × List Str) := [(Str.ofString "n", menuN), (Str.ofString "c", menuC), (Str.ofString "r", menuR), (Str.ofString "l", menuL), (Str.ofString "f", menuF), (Str.ofString "s", menuS)]
/-- the signs of a text -/
def sgn (x : Str) : List Str := x.cps.toList.map fun c => ⟨#[c]⟩
def PartOf (k w : Str) : Prop := ∃ m, (k, m) ∈ menus ∧ w ∈ m
theorem kinds_in : ∀ k, (∃ r ∈ tbl, k ∈ sgn r.2.1) ∨ (∃ r ∈ cls, k ∈ sgn r.2) → ∃ m, (k, m) ∈ menus := by
  have h1 : (tbl.all fun r => (sgn r.2.1).all fun k => menus.any fun m => decide (m.1 = k)) = true := by kernel_rfl
  have h2 : (cls.all fun r => (sgn r.2).all fun k => menus.any fun m => decide (m.1 = k)) = true := by kernel_rfl
  rintro k (⟨r, hr, hk⟩ | ⟨r, hr, hk⟩)
  · have := List.all_eq_true.mp (List.all_eq_true.mp h1 r hr) k hk
    obtain ⟨m, hm, e⟩ := List.any_eq_true.mp this
    exact ⟨m.2, by rw [← of_decide_eq_true e]; exact hm⟩
  · have := List.all_eq_true.mp (List.all_eq_true.mp h2 r hr) k hk
    obtain ⟨m, hm, e⟩ := List.any_eq_true.mp this
    exact ⟨m.2, by rw [← of_decide_eq_true e]; exact hm⟩
/-- what _law_words may give -/
def Words (ws : List Str) : Prop := (∃ r ∈ tbl, ∃ ps, ws = r.1 :: ps ∧ All2 PartOf (sgn r.2.1) ps) ∨
  ∃ r ∈ cls, ∃ p ps, ws = Str.ofString "claim" :: p :: r.1 :: ps ∧ PartOf (Str.ofString "n") p ∧ All2 PartOf (sgn r.2) ps
theorem strs_of {R : Str → Str → Prop} : ∀ {ks : List Str} {ds : List PyData}, All2 (fun (x : Vl) (d : PyData) => ∃ k w, x = .p (.str k) ∧ d = .str w ∧ R k w) (ks.map fun k => Vl.p (.str k)) ds → ∃ ws : List Str, ds = ws.map .str ∧ All2 R ks ws
  | [], _, h => by cases h; exact ⟨[], rfl, .nil⟩
  | k :: ks, _, h => by
    cases h with
    | cons h hs =>
      obtain ⟨k', w, e1, rfl, r⟩ := h
      cases e1
      obtain ⟨ws, rfl, rs⟩ := strs_of hs
      exact ⟨w :: ws, rfl, .cons r rs⟩
/-- [_law_part(pot, kind) for kind in kinds] -/
theorem parts_lc {d n : Nat} {s : Cells} {ks : Str} {slw : Sl} (h : PotAt n s) (hk : ∀ k ∈ sgn ks, ∃ m, (k, m) ∈ menus) (h0 : ∀ v, (slw.set 4 (some v))[0]? = some (some (.ref n))) (h4 : ∀ v, (slw.set 4 (some v))[4]? = some (some v)) (hl : ks.length ≤ 100) :
    Okk (lcLoop (lcTurn (pgOf pr (d + 3)) (.call 64 (.cons (.var 0) (.cons (.var 4) .nil))) (.nm 4) (.bl true) slw) ((sgn ks).map fun k => Vl.p (.str k)) s) fun ds s => PotAt n s ∧ ∃ ps : List Str, ds = ps.map .str ∧ All2 PartOf (sgn ks) ps := by
  refine (lcLoop_rel (PotAt n) (fun (x : Vl) (d : PyData) => ∃ k w, x = .p (.str k) ∧ d = .str w ∧ PartOf k w) (fun x hx s hs => ?_) h).mono fun ds s ⟨h1, h2⟩ => ?_
  · obtain ⟨k, hk1, rfl⟩ := List.mem_map.mp hx
    obtain ⟨m, hm⟩ := hk k hk1
    refine wTurn (wNm (wBl ⟨rfl, wCall (wCons (wVar (h0 _) (wCons (wVar (h4 _) (wNil ?_)))))⟩))
    refine (part hs hm).mono fun v s' ⟨hp, w, hw, e⟩ => ?_
    exact ⟨.str w, e, _, rfl, ⟨k, w, rfl, rfl, m, hm, hw⟩, hp⟩
  · obtain ⟨ws, e, r⟩ := strs_of h1
    exact ⟨h2, ws, e, r⟩
end K95
set_option linter.all false
set_option autoImplicit false
set_option maxRecDepth 100000
set_option maxHeartbeats 1000000
namespace K95
open PySem Sh
theorem sgn_items (ks : Str) (s : Cells) : itemsV s (.p (.str ks)) = some ((sgn ks).map fun k => Vl.p (.str k)) := by
  show some _ = some _
  unfold sgn
  rw [List.map_map]
  rfl
theorem sgn_len (ks : Str) : (sgn ks).length = ks.length := by
  unfold sgn
  rw [List.length_map, Array.length_toList]
  rfl
theorem ks_short : (∀ r ∈ tbl, r.2.1.length ≤ 10) ∧ ∀ r ∈ cls, r.2.length ≤ 10 := by
  have h1 : (tbl.all fun r => Nat.ble r.2.1.length 10) = true := by kernel_rfl
  have h2 : (cls.all fun r => Nat.ble r.2.length 10) = true := by kernel_rfl
  exact ⟨fun r hr => Nat.le_of_ble_eq_true (List.all_eq_true.mp h1 r hr), fun r hr => Nat.le_of_ble_eq_true (List.all_eq_true.mp h2 r hr)⟩
theorem ble_of {n m : Nat} (h : n ≤ m) : Nat.ble n m = true := Nat.ble_eq_true_of_le h
theorem add_lists {xs ys : List PyData} {s : Cells} (h : xs.length + ys.length ≤ 1000) : binV .add (.p (.list xs)) (.p (.list ys)) s = some (.list (xs ++ ys)) := by
  show (if Nat.ble (xs.length + ys.length) sizeLine = true then some (PyData.list (xs ++ ys)) else none) = _
  rw [if_pos (ble_of (Nat.le_trans h (by decide)))]
theorem all2_len {α β : Type} {R : α → β → Prop} {xs : List α} {ys : List β} (h : All2 R xs ys) : ys.length = xs.length := h.length
theorem words {d n : Nat} {s : Cells} (h : PotAt n s) : Okk (callF pr (d + 4) 66 [.ref n] s) fun v s' => PotAt n s' ∧ ∃ ws, v = .p (.list (ws.map .str)) ∧ Words ws := by
  obtain ⟨q1, q2⟩ := ks_short
  refine callN (F := f66) rfl rfl rfl rfl ?_
  refine wBcons <| wIfs <| wCmp <| wCall <| wCons <| wVar rfl <| wCons <| wInt <| wNil ?_
  refine (draw h (by decide) (by decide)).mono fun v s1 ⟨hp, r, e, _, _⟩ => ?_
  subst e
  refine wInt ⟨r == 0, rfl, r == 0, rfl, ?_⟩
  cases (r == 0) with
  | true =>
    refine wBcons <| wAsg <| wCall <| wCons <| wVar rfl <| wCons <| wCall <| wNil <| Okk.eq (claims_ev (d + 2) s1) <| wNil ?_
    refine (pick hp (by decide) (by decide)).mono fun v s2 ⟨hp2, x, hx, e⟩ => ?_
    subst e
    obtain ⟨rw, hr, rfl⟩ := List.mem_map.mp hx
    refine wTp rfl (wTcons (wNm (wTcons (wNm (wTnil ?_)))))
    refine wBcons <| wRet <| wBin <| wLst <| wCons <| wStr <| wCons <| wCall <| wCons <| wVar rfl <| wCons <| wStr <| wNil ?_
    refine (part hp2 (k := Str.ofString "n") (m := menuN) (by simp)).mono fun v s3 ⟨hp3, p, hpn, e⟩ => ?_
    subst e
    refine wCons (wVar rfl (wNil ⟨_, rfl, wLc (wVal (wVar rfl ⟨_, sgn_items _ _, ?_⟩))⟩))
    refine (parts_lc hp3 (fun k hk => kinds_in k (.inr ⟨rw, hr, hk⟩)) (fun _ => rfl) (fun _ => rfl) (Nat.le_trans (q2 rw hr) (by decide))).mono fun ds s4 ⟨hp4, ps, e, a2⟩ => ?_
    subst e
    have hl : ps.length ≤ 10 := by rw [a2.length, sgn_len]; exact q2 rw hr
    refine ⟨ble_of (Nat.le_trans (by rw [List.length_map]; exact hl) (by decide)), _, add_lists (by rw [List.length_map]; simp; omega), ?_⟩
    exact ⟨hp4, Str.ofString "claim" :: p :: rw.1 :: ps, rfl, .inr ⟨rw, hr, p, ps, rfl, ⟨menuN, by simp [menus], hpn⟩, a2⟩⟩
  | false =>
    refine wBnil <| wBcons <| wAsg <| wCall <| wCons <| wVar rfl <| wCons <| wCall <| wNil <| Okk.eq (table_ev (d + 2) s1) <| wNil ?_
    refine (pick hp (by decide) (by decide)).mono fun v s2 ⟨hp2, x, hx, e⟩ => ?_
    subst e
    obtain ⟨rw, hr, rfl⟩ := List.mem_map.mp hx
    refine wTp rfl (wTcons (wNm (wTcons (wNm (wTcons (wNm (wTnil ?_)))))))
    refine wBcons <| wRet <| wBin <| wLst <| wCons <| wVar rfl <| wNil ⟨_, rfl, wLc <| wVal <| wVar rfl ⟨_, sgn_items _ _, ?_⟩⟩
    refine (parts_lc hp2 (fun k hk => kinds_in k (.inl ⟨rw, hr, hk⟩)) (fun _ => rfl) (fun _ => rfl) (Nat.le_trans (q1 rw hr) (by decide))).mono fun ds s4 ⟨hp4, ps, e, a2⟩ => ?_
    subst e
    have hl : ps.length ≤ 10 := by rw [a2.length, sgn_len]; exact q1 rw hr
    refine ⟨ble_of (Nat.le_trans (by rw [List.length_map]; exact hl) (by decide)), _, add_lists (by rw [List.length_map]; simp; omega), ?_⟩
    exact ⟨hp4, rw.1 :: ps, rfl, .inl ⟨rw, hr, ps, rfl, a2⟩⟩
end K95
set_option linter.all false
set_option autoImplicit false
set_option maxRecDepth 100000
set_option maxHeartbeats 8000000
namespace K95
open PySem Sh
def j97 : Str := Txt.join (Str.ofString ",") (List.replicate 97 (Str.ofString "7"))
def odds : List Str := [Str.ofString "", Str.ofString "A", Str.ofString "abcdefghi", Str.ofString "1a", Str.ofString "a-b", Str.ofString "-", Str.ofString "-0", Str.ofString "00", Str.ofString "01", Str.ofString "1000000", Str.ofString "-1000000", Str.ofString "1/2", Str.ofString "2/4", Str.ofString "1/1", Str.ofString "1/0", Str.ofString "1/-2", Str.ofString "1..2", Str.ofString "2..1", Str.ofString "1..", Str.ofString "..1", Str.ofString "1...2", Str.ofString "1,,2", Str.ofString "1,", Str.ofString ",1", Str.ofString "-,1", Str.ofString "1,01", Str.ofString "+1", Str.ofString "a b", Str.ofString "0..1..2", Str.ofString "-7", Str.ofString "3", j97, Str.ofString "1111111111111111111111111111111/100000000", Str.ofString "11111111111111111111111111111111111111111", Str.ofString "11111111111111111111..1111111111111111111", Str.ofString "a", Str.ofString "Undo", Str.ofString "1/2..2/4", Str.ofString "5.5", Str.ofString "x\n"]
def r65 : BL := .cons (.ret (.call 54 (.cons (.var 0) (.cons (.var 1) .nil)))) .nil
theorem odd_cut : f65.body = appB (initB f65.body) r65 := by kernel_rfl
theorem odd_ev (d n : Nat) (s : Cells) : evB (pgOf pr (d + 2)) (initB f65.body) [some (.ref n), none] s = .ok (.nx [some (.ref n), some (.p (.list (odds.map .str)))]) s := by kernel_rfl
theorem odd {d n : Nat} {s : Cells} (h : PotAt n s) : Okk (callF pr (d + 3) 65 [.ref n] s) fun v s' => PotAt n s' ∧ ∃ x ∈ odds, v = .p (.str x) := by
  refine callN (F := f65) rfl rfl rfl rfl ?_
  rw [odd_cut]
  refine app_ev (odd_ev d n s) ?_
  refine wBcons <| wRet <| wCallR <| wCons <| wVar rfl <| wCons <| wVar rfl <| wNil ?_
  refine (pick h (by rw [List.length_map]; decide) (by rw [List.length_map]; decide)).mono fun v s' ⟨hp, x, hx, e⟩ => ?_
  obtain ⟨y, hy, rfl⟩ := List.mem_map.mp hx
  exact ⟨hp, y, hy, e⟩
/-- texts, each with p -/
def AllS (p : Str → Prop) (ds : List PyData) : Prop := ∀ d ∈ ds, ∃ x, d = .str x ∧ p x
theorem allS_map {p : Str → Prop} {ws : List Str} (h : ∀ w ∈ ws, p w) : AllS p (ws.map .str) := fun d hd => by
  obtain ⟨x, hx, rfl⟩ := List.mem_map.mp hd
  exact ⟨x, rfl, h x hx⟩
theorem AllS.app {p : Str → Prop} {xs ys : List PyData} (h : AllS p xs) (k : AllS p ys) : AllS p (xs ++ ys) := fun d hd => (List.mem_append.mp hd).elim (h d) (k d)
theorem AllS.cut {p : Str → Prop} {xs : List PyData} {lo hi : Option Int} (h : AllS p xs) : AllS p (cutL xs lo hi) := fun d hd => h d (List.mem_of_mem_drop (List.mem_of_mem_take hd))
theorem cut_len {xs : List PyData} {lo hi : Option Int} : (cutL xs lo hi).length ≤ xs.length := by
  unfold cutL
  rw [List.length_take, List.length_drop]
  omega
theorem AllS.one {p : Str → Prop} {x : Str} (h : p x) : AllS p [.str x] := fun d hd => by
  rw [List.mem_singleton.mp hd]
  exact ⟨x, rfl, h⟩
theorem AllS.strs {p : Str → Prop} : ∀ {ds : List PyData}, AllS p ds → ∃ L : List Str, ds = L.map .str ∧ ∀ x ∈ L, p x
  | [], _ => ⟨[], rfl, fun x h => by cases h⟩
  | d :: r, h => by
    obtain ⟨x, rfl, hx⟩ := h d List.mem_cons_self
    obtain ⟨L, rfl, hL⟩ := AllS.strs (fun e he => h e (List.mem_cons_of_mem _ he))
    exact ⟨x :: L, rfl, fun y hy => by
      rcases List.mem_cons.mp hy with e | e
      · rw [e]; exact hx
      · exact hL y e⟩
theorem len_ev {P : Pg} {xs : List PyData} {s : Cells} : bltV P .len [.p (.list xs)] s = .ok (.p (.int xs.length)) s := by
  show O.ok (Vl.p (.int (xs.map Vl.p).length)) s = _
  rw [List.length_map]
/-- a list of at most n texts, each with p -/
def Lp (p : Str → Prop) (n : Nat) (v : Vl) : Prop := ∃ ds, v = .p (.list ds) ∧ AllS p ds ∧ ds.length ≤ n
section
variable {P : Pg} {sl : Sl} {s : Cells} {Q : Vl → Cells → Prop} {a b lo hi : E} {p : Str → Prop}
theorem wAddP {n m : Nat} (hn : n + m ≤ 1000) (h : Okk (evE P a sl s) fun x s => Lp p n x ∧ Okk (evE P b sl s) fun y s => Lp p m y ∧ ∀ z, Lp p (n + m) z → Q z s) : Okk (evE P (.bin .add a b) sl s) Q := by
  refine wBin <| h.mono fun x s ⟨⟨xs, e, hx, lx⟩, h⟩ => h.mono fun y s ⟨⟨ys, e', hy, ly⟩, h⟩ => ?_
  subst e e'
  exact ⟨_, add_lists (by omega), h _ ⟨_, rfl, hx.app hy, by rw [List.length_append]; omega⟩⟩
theorem wCutP {n : Nat} (h : Okk (evE P a sl s) fun x s => Lp p n x ∧ Okk (evE P lo sl s) fun l s => Okk (evE P hi sl s) fun u s => (∃ l' u', optB lo l = some l' ∧ optB hi u = some u') ∧ ∀ z, Lp p n z → Q z s) : Okk (evE P (.sl a lo hi) sl s) Q := by
  refine wSl <| h.mono fun x s ⟨⟨xs, e, hx, lx⟩, h⟩ => h.mono fun l s h => h.mono fun u s ⟨⟨l', u', e1, e2⟩, h⟩ => ?_
  subst e
  exact ⟨l', u', _, e1, e2, rfl, h _ ⟨_, rfl, hx.cut, Nat.le_trans cut_len lx⟩⟩
theorem wOneP (h : Okk (evE P a sl s) fun x s => (∃ y, x = .p (.str y) ∧ p y) ∧ ∀ z, Lp p 1 z → Q z s) : Okk (evE P (.lst (.cons a .nil)) sl s) Q := by
  refine wLst <| wCons <| h.mono fun x s ⟨⟨y, e, hy⟩, h⟩ => wNil ?_
  subst e
  exact ⟨_, rfl, h _ ⟨_, rfl, .one hy, Nat.le_refl _⟩⟩
theorem Lp.up {n m : Nat} {z : Vl} (h : Lp p n z) (k : n ≤ m) : Lp p m z := by
  obtain ⟨ds, e, h1, h2⟩ := h
  exact ⟨ds, e, h1, Nat.le_trans h2 k⟩
end
theorem ix0 {P : Pg} {x : PyData} {Y : List PyData} {s : Cells} : ixV P (.p (.list (x :: Y))) (.p (.int 0)) s = some (.p x) := by
  show L2.atI (Vl.p x :: Y.map .p) 0 = _
  unfold L2.atI L2.ixN
  simp
theorem bent {d n : Nat} {s : Cells} (h : PotAt n s) {p : Str → Prop} {w0 : Str} {rest : List Str} (hp : ∀ w ∈ w0 :: rest, p w) (ho : ∀ w ∈ odds, p w) (he : p (Str.ofString "")) (hu : p (Txt.upper w0)) (hl : rest.length ≤ 20) (hul : w0.length ≤ 1000) :
    Okk (callF pr (d + 4) 67 [.ref n, .p (.list ((w0 :: rest).map .str))] s) fun v s' => PotAt n s' ∧ Lp p 43 v := by
  have hA := allS_map hp
  have hlen : ((w0 :: rest).map PyData.str).length ≤ 21 := by simp; omega
  refine callN (F := f67) rfl rfl rfl rfl ?_
  refine wBcons <| wPar2 <| wCallR <| wCons <| wVar rfl <| wCons (wBlt <| wCons <| wVar rfl <| wNil <| Okk.eq len_ev <| wNil ?_)
  refine (draw h (by simp; omega) (by simp; omega)).mono fun v s1 ⟨hp1, r, e, r0, r1⟩ => ?_
  subst e
  refine wCallR <| wCons <| wVar rfl <| wCons <| wInt <| wNil ?_
  refine (draw hp1 (by decide) (by decide)).mono fun v s2 ⟨hp2, w, e, _, _⟩ => ?_
  subst e
  generalize hX : (w0 :: rest).map PyData.str = X at hA hlen r1
  have hX0 : ∃ Y, X = .str w0 :: Y := ⟨rest.map .str, by rw [← hX]; rfl⟩
  have hL : Lp p 21 (.p (.list X)) := ⟨X, rfl, hA, hlen⟩
  obtain ⟨x, hx, ex⟩ := atI_mem (xs := X.map Vl.p) r0 (by rw [List.length_map]; exact r1)
  obtain ⟨y, hy, rfl⟩ := List.mem_map.mp hx
  obtain ⟨yx, rfl, hyx⟩ := hA y hy
  refine wBcons <| wIfs <| wCmp <| wVar rfl <| wInt ⟨w == 0, rfl, w == 0, rfl, ?_⟩
  cases (w == 0) with
  | true =>
    refine wBcons <| wRet <| wIfe <| wCmp <| wBlt <| wCons <| wVar rfl <| wNil <| Okk.eq len_ev <| wInt ⟨decide (1 < (X.length : Int)), rfl, decide (1 < (X.length : Int)), rfl, ?_⟩
    cases decide (1 < (X.length : Int)) with
    | true =>
      refine wAddP (n := 21) (m := 21) (p := p) (by decide) <| wCutP (n := 21) <| wVar rfl ⟨hL, wNon <| wVar rfl ⟨⟨_, _, rfl, rfl⟩, fun z hz => ⟨hz, ?_⟩⟩⟩
      exact wCutP (n := 21) <| wVar rfl ⟨hL, wBin <| wVar rfl <| wInt ⟨_, rfl, wNon ⟨⟨_, _, rfl, rfl⟩, fun z hz => ⟨hz, fun z hz => ⟨hp2, hz.up (by decide)⟩⟩⟩⟩⟩
    | false => exact wOneP (p := p) <| wStr ⟨⟨_, rfl, he⟩, fun z hz => ⟨hp2, hz.up (by decide)⟩⟩
  | false =>
    refine wBnil <| wBcons <| wIfs <| wCmp <| wVar rfl <| wInt ⟨w == 1, rfl, w == 1, rfl, ?_⟩
    cases (w == 1) with
    | true =>
      refine wBcons <| wRet <| wAddP (n := 22) (m := 21) (p := p) (by decide) <| wAddP (n := 21) (m := 1) (p := p) (by decide) <| wCutP (n := 21) <| wVar rfl ⟨hL, wNon <| wVar rfl ⟨⟨_, _, rfl, rfl⟩, fun z hz => ⟨hz, ?_⟩⟩⟩
      refine wOneP (p := p) <| wIx <| wVar rfl <| wVar rfl ⟨_, ex, ⟨_, rfl, hyx⟩, fun z hz => ⟨hz, fun z hz => ⟨hz, ?_⟩⟩⟩
      exact wCutP (n := 21) <| wVar rfl ⟨hL, wVar rfl <| wNon ⟨⟨_, _, rfl, rfl⟩, fun z hz => ⟨hz, fun z hz => ⟨hp2, hz.up (by decide)⟩⟩⟩⟩
    | false =>
      refine wBnil <| wBcons <| wIfs <| wCmp <| wVar rfl <| wInt ⟨w == 2, rfl, w == 2, rfl, ?_⟩
      cases (w == 2) with
      | true =>
        refine wBcons <| wRet <| wAddP (n := 21) (m := 1) (p := p) (by decide) <| wVar rfl ⟨hL, wOneP (p := p) <| wCallR <| wCons <| wVar rfl <| wNil ?_⟩
        refine (odd hp2).mono fun v s3 ⟨hp3, o, hoo, e⟩ => ?_
        exact ⟨⟨o, e, ho o hoo⟩, fun z hz => ⟨hz, fun z hz => ⟨hp3, hz.up (by decide)⟩⟩⟩
      | false =>
        refine wBnil <| wBcons <| wIfs <| wCmp <| wVar rfl <| wInt ⟨w == 3, rfl, w == 3, rfl, ?_⟩
        cases (w == 3) with
        | true => exact wBcons <| wRet <| wSlrev <| wVar rfl ⟨rfl, hp2, _, rfl, fun d hd => hA d (List.mem_reverse.mp hd), by rw [List.length_reverse]; omega⟩
        | false =>
          refine wBnil <| wBcons <| wIfs <| wCmp <| wVar rfl <| wInt ⟨w == 4, rfl, w == 4, rfl, ?_⟩
          cases (w == 4) with
          | true =>
            obtain ⟨Y, rfl⟩ := hX0
            refine wBcons <| wRet <| wAddP (n := 1) (m := 21) (p := p) (by decide) <| wOneP (p := p) <| wMth <| wIx <| wVar rfl <| wInt ⟨_, ix0, rfl, wNil (Okk.eq (a := .p (.str (Txt.upper w0))) (s := s2) ?_ ⟨⟨_, rfl, hu⟩, fun z hz => ⟨hz, ?_⟩⟩)⟩
            · show (if Nat.ble w0.length 5592405 = true then O.ok (Vl.p (.str (Txt.upper w0))) s2 else .bad) = _
              rw [if_pos (ble_of (by omega))]
            · exact wCutP (n := 21) <| wVar rfl ⟨hL, wInt <| wNon ⟨⟨_, _, rfl, rfl⟩, fun z hz => ⟨hz, fun z hz => ⟨hp2, hz.up (by decide)⟩⟩⟩⟩
          | false =>
            refine wBnil <| wBcons <| wRet <| wAddP (n := 22) (m := 21) (p := p) (by decide) <| wAddP (n := 21) (m := 1) (p := p) (by decide) <| wCutP (n := 21) <| wVar rfl ⟨hL, wNon <| wVar rfl ⟨⟨_, _, rfl, rfl⟩, fun z hz => ⟨hz, ?_⟩⟩⟩
            refine wOneP (p := p) <| wCallR <| wCons <| wVar rfl <| wNil ?_
            refine (odd hp2).mono fun v s3 ⟨hp3, o, hoo, e⟩ => ?_
            refine ⟨⟨o, e, ho o hoo⟩, fun z hz => ⟨hz, fun z hz => ⟨hz, ?_⟩⟩⟩
            exact wCutP (n := 21) <| wVar rfl ⟨hL, wBin <| wVar rfl <| wInt ⟨_, rfl, wNon ⟨⟨_, _, rfl, rfl⟩, fun z hz => ⟨hz, fun z hz => ⟨hp3, hz.up (by decide)⟩⟩⟩⟩⟩
end K95
set_option linter.all false
set_option autoImplicit false
set_option maxRecDepth 100000
set_option maxHeartbeats 4000000
namespace K95
open PySem Sh
def sp : Str := Str.ofString " "
def claim : Str := Str.ofString "claim"
def heads : List Str := claim :: tbl.map (·.1)
/-- the texts without a space that may come up -/
def Wd : List Str := heads ++ cls.map (·.1) ++ menuN ++ menuC ++ menuR ++ menuL ++ menuF ++ menuS ++ odds.filter (fun x => decide (x ≠ Str.ofString "a b")) ++ [Str.ofString "a", Str.ofString "b", Str.ofString ""] ++ heads.map Txt.upper
def ab : Str := Str.ofString "a b"
def W0 (x : Str) : Prop := x ∈ Wd ∨ x = ab
def expd (x : Str) : List Str := if x = ab then [Str.ofString "a", Str.ofString "b"] else [x]
theorem memW {ys : List Str} (h : (ys.all fun x => Wd.any fun y => decide (x = y)) = true) : ∀ x ∈ ys, x ∈ Wd := fun x hx => by
  obtain ⟨y, hy, e⟩ := List.any_eq_true.mp (List.all_eq_true.mp h x hx)
  rw [of_decide_eq_true e]
  exact hy
theorem heads_in : ∀ x ∈ heads, x ∈ Wd := memW (by kernel_rfl)
theorem uppers_in : ∀ x ∈ heads.map Txt.upper, x ∈ Wd := memW (by kernel_rfl)
theorem cls_in : ∀ x ∈ cls.map (·.1), x ∈ Wd := memW (by kernel_rfl)
theorem menus_in : ∀ x ∈ menus.flatMap (·.2), x ∈ Wd := memW (by kernel_rfl)
theorem odds_in : ∀ x ∈ odds, W0 x := fun x hx => by
  have h : (odds.all fun x => decide (x = ab) || Wd.any fun y => decide (x = y)) = true := by kernel_rfl
  rcases (Bool.or_eq_true _ _).mp (List.all_eq_true.mp h x hx) with e | e
  · exact .inr (of_decide_eq_true e)
  · obtain ⟨y, hy, e⟩ := List.any_eq_true.mp e
    rw [of_decide_eq_true e]
    exact .inl hy
theorem part_in {k w : Str} (h : PartOf k w) : w ∈ Wd := by
  obtain ⟨m, hm, hw⟩ := h
  exact menus_in w (List.mem_flatMap.mpr ⟨(k, m), hm, hw⟩)
theorem all2_right {α β : Type} {R : α → β → Prop} {p : β → Prop} (hp : ∀ a b, R a b → p b) : ∀ {xs : List α} {ys : List β}, All2 R xs ys → ∀ y ∈ ys, p y
  | _, _, .nil => fun y h => by cases h
  | _, _, .cons h hs => fun y hy => by
    rcases List.mem_cons.mp hy with rfl | hy
    · exact hp _ _ h
    · exact all2_right hp hs y hy
/-- the words: a head, then texts of Wd -/
theorem words_in {ws : List Str} (h : Words ws) : ∃ w0 rest, ws = w0 :: rest ∧ w0 ∈ heads ∧ (∀ w ∈ ws, w ∈ Wd) ∧ rest.length ≤ 20 := by
  obtain ⟨q1, q2⟩ := ks_short
  rcases h with ⟨r, hr, ps, rfl, a2⟩ | ⟨r, hr, p, ps, rfl, hp, a2⟩
  · refine ⟨_, _, rfl, List.mem_cons_of_mem _ (List.mem_map.mpr ⟨r, hr, rfl⟩), fun w hw => ?_, ?_⟩
    · rcases List.mem_cons.mp hw with rfl | hw
      · exact heads_in _ (List.mem_cons_of_mem _ (List.mem_map.mpr ⟨r, hr, rfl⟩))
      · exact all2_right (p := (· ∈ Wd)) (fun _ _ h => part_in h) a2 w hw
    · have := a2.length
      rw [sgn_len] at this
      have := q1 r hr
      omega
  · refine ⟨_, _, rfl, List.mem_cons_self, fun w hw => ?_, ?_⟩
    · rcases List.mem_cons.mp hw with rfl | hw
      · exact heads_in _ List.mem_cons_self
      rcases List.mem_cons.mp hw with rfl | hw
      · exact part_in hp
      rcases List.mem_cons.mp hw with rfl | hw
      · exact cls_in _ (List.mem_map.mpr ⟨r, hr, rfl⟩)
      · exact all2_right (p := (· ∈ Wd)) (fun _ _ h => part_in h) a2 w hw
    · have := a2.length
      rw [sgn_len] at this
      have := q2 r hr
      simp only [List.length_cons]
      omega
/-! ### a line of words -/
theorem wd_nosp : ∀ x ∈ Wd, 32 ∉ TL.tl x := fun x hx => by
  have h : (Wd.all fun x => !((TL.tl x).contains 32)) = true := by kernel_rfl
  have := List.all_eq_true.mp h x hx
  intro hc
  rw [List.contains_iff_mem.mpr hc] at this
  exact absurd this (by decide)
theorem wd_len : ∀ x ∈ Wd, x.length ≤ 200 := fun x hx => by
  have h : (Wd.all fun x => Nat.ble x.length 200) = true := by kernel_rfl
  exact Nat.le_of_ble_eq_true (List.all_eq_true.mp h x hx)
theorem split_line {B : List Str} (h0 : B ≠ []) (h : ∀ x ∈ B, x ∈ Wd) : Txt.split (Txt.join sp B) sp = B :=
  TL.split_join (s := 32) (S := []) rfl (by kernel_rfl) h0 fun p hp => wd_nosp p (h p hp)
theorem join_cons (x y : Str) (r : List Str) : Txt.join sp (x :: y :: r) = x ++ sp ++ Txt.join sp (y :: r) := by
  rw [TL.join_eq, TL.join_eq]
  rfl
theorem join_one (x : Str) : Txt.join sp [x] = x := by
  rw [TL.join_eq]
  rfl
theorem ab_eq : ab = Str.ofString "a" ++ sp ++ Str.ofString "b" := rfl
theorem app_assoc (x y z : Str) : x ++ y ++ z = x ++ (y ++ z) := by
  have h : TL.tl (x ++ y ++ z) = TL.tl (x ++ (y ++ z)) := by
    rw [TL.tl_append, TL.tl_append, TL.tl_append, TL.tl_append, List.append_assoc]
  rw [← TL.mk_tl (x ++ y ++ z), h, TL.mk_tl]
theorem join_expd : ∀ L : List Str, Txt.join sp (L.flatMap expd) = Txt.join sp L
  | [] => rfl
  | [x] => by
    show Txt.join sp (expd x ++ []) = _
    rw [List.append_nil]
    unfold expd
    split
    · rename_i e
      rw [e]
      rfl
    · rfl
  | x :: y :: r => by
    have ih := join_expd (y :: r)
    have hne : ∃ z q, (y :: r).flatMap expd = z :: q := by
      show ∃ z q, expd y ++ _ = z :: q
      unfold expd
      split <;> exact ⟨_, _, rfl⟩
    obtain ⟨z, q, e⟩ := hne
    rw [join_cons, ← ih]
    show Txt.join sp (expd x ++ (y :: r).flatMap expd) = _
    rw [e]
    unfold expd
    split
    · rename_i e'
      rw [e', ab_eq]
      show Txt.join sp (_ :: _ :: z :: q) = _
      rw [join_cons, join_cons]
      simp only [app_assoc]
    · exact join_cons _ _ _
/-- what a line of texts splits to -/
def cutW (L : List Str) : List Str := match L with
  | [] => [Str.ofString ""]
  | _ => L.flatMap expd
theorem cutW_ok {L : List Str} (h : ∀ x ∈ L, W0 x) : Txt.split (Txt.join sp L) sp = cutW L ∧ Txt.join sp (cutW L) = Txt.join sp L ∧ cutW L ≠ [] ∧ (∀ x ∈ cutW L, x ∈ Wd) ∧ (cutW L).length ≤ 2 * L.length + 1 := by
  have hin : ∀ x ∈ cutW L, x ∈ Wd := by
    intro x hx
    cases L with
    | nil =>
      rw [List.mem_singleton.mp hx]
      exact odds_in _ (by simp [odds]) |>.elim id fun e => absurd e (by decide)
    | cons y r =>
      obtain ⟨z, hz, e⟩ := List.mem_flatMap.mp hx
      unfold expd at e
      split at e
      · exact memW (ys := [Str.ofString "a", Str.ofString "b"]) (by kernel_rfl) x e
      · rename_i ne
        rw [List.mem_singleton.mp e]
        exact (h z hz).elim id fun e => absurd e ne
  have hj : Txt.join sp (cutW L) = Txt.join sp L := by
    cases L with
    | nil => rfl
    | cons y r => exact join_expd _
  have hne : cutW L ≠ [] := by
    cases L with
    | nil => exact List.cons_ne_nil _ _
    | cons y r =>
      show expd y ++ _ ≠ []
      unfold expd
      split <;> exact List.cons_ne_nil _ _
  refine ⟨?_, hj, hne, hin, ?_⟩
  · rw [← hj]
    exact split_line hne hin
  · have hk : ∀ M : List Str, (M.flatMap expd).length ≤ 2 * M.length := by
      intro M
      induction M with
      | nil => exact Nat.zero_le _
      | cons a M ih =>
        show (expd a ++ M.flatMap expd).length ≤ _
        rw [List.length_append, List.length_cons]
        have : (expd a).length ≤ 2 := by
          unfold expd
          split <;> exact Nat.le_of_ble_eq_true rfl
        omega
    cases L with
    | nil => decide
    | cons y r => exact Nat.le_succ_of_le (hk _)
end K95
set_option linter.all false
set_option autoImplicit false
set_option maxRecDepth 100000
set_option maxHeartbeats 4000000
namespace K95
open PySem Sh
def DD : List (Str × PyData) := (md.dics.lookup (Str.ofString "DESK_DEEDS")).getD []
def AA : List (Str × PyData) := (md.dics.lookup (Str.ofString "DESK_ASKED")).getD []
def CC : List (Str × PyData) := (md.dics.lookup (Str.ofString "DESK_CLAIMS")).getD []
def letters : List Str := menus.map (·.1)
/-- the desk's kinds, by the law's letters -/
def pairs : List (Str × Str) := (DD ++ AA ++ CC).flatMap fun r => match r.2 with
  | .tuple ds => match tbl.lookup r.1, cls.lookup r.1 with
    | some (ks, _), none => (sgn ks).zip ((strsOf ds).getD [])
    | none, some ks => (sgn ks).zip ((strsOf ds).getD [])
    | _, _ => []
  | _ => []
def pairsD : List (Str × Str) := pairs.eraseDups
def boolOf : O Vl → Option Bool
  | .ok (.p (.bool b)) _ => some b
  | _ => none
def partOk (l w : Str) : Bool := (boolOf (callF pr 38 62 [.p (.str l), .p (.str w)] [])).getD false
def isNo : PyData → Bool
  | .none => true
  | _ => false
def partD (k w : Str) : O Vl := callF pr 36 45 [.p (.str k), .p (.str w)] []
def chk (l k w : Str) : Bool := match partD k w, boolOf (callF pr 38 62 [.p (.str l), .p (.str w)] []) with
  | .ok (.p d) _, some b => (isD d .none).isSome && (isNo d == !b)
  | _, _ => false
theorem chk_n_plant : (Wd.all (chk (Str.ofString "n") (Str.ofString "plant"))) = true := by kernel_rfl
theorem chk_f_fraction : (Wd.all (chk (Str.ofString "f") (Str.ofString "fraction"))) = true := by kernel_rfl
theorem chk_l_list : (Wd.all (chk (Str.ofString "l") (Str.ofString "list"))) = true := by kernel_rfl
theorem chk_c_number : (Wd.all (chk (Str.ofString "c") (Str.ofString "number"))) = true := by kernel_rfl
theorem chk_s_stretch : (Wd.all (chk (Str.ofString "s") (Str.ofString "stretch"))) = true := by kernel_rfl
theorem same_log (w : Str) : partD (Str.ofString "log") w = partD (Str.ofString "plant") w := by kernel_rfl
theorem chk_r_reading : (Wd.all (chk (Str.ofString "r") (Str.ofString "reading"))) = true := by kernel_rfl
theorem same_new (w : Str) : partD (Str.ofString "new") w = partD (Str.ofString "plant") w := by kernel_rfl
theorem same_known (w : Str) : partD (Str.ofString "known") w = partD (Str.ofString "plant") w := by kernel_rfl
theorem same_task (w : Str) : partD (Str.ofString "task") w = partD (Str.ofString "plant") w := by kernel_rfl
theorem same_orders (w : Str) : partD (Str.ofString "orders") w = partD (Str.ofString "plant") w := by kernel_rfl
theorem same_name (w : Str) : partD (Str.ofString "name") w = partD (Str.ofString "plant") w := by kernel_rfl
theorem same_label (w : Str) : partD (Str.ofString "label") w = partD (Str.ofString "plant") w := by kernel_rfl
theorem same_other (w : Str) : partD (Str.ofString "other") w = partD (Str.ofString "plant") w := by kernel_rfl
theorem same_target (w : Str) : partD (Str.ofString "target") w = partD (Str.ofString "plant") w := by kernel_rfl
theorem chk_word : (Wd.all fun w => match partD (Str.ofString "word") w with | .ok (.p d) _ => (isD d .none).isSome && (isNo d == !(CC.lookup w).isSome) | _ => false) = true := by kernel_rfl
theorem name_runs : (Wd.all fun w => decide (boolOf (callF pr 38 57 [.p (.str w)] []) = some (partOk (Str.ofString "n") w))) = true := by kernel_rfl
theorem pure_any {R : Pr} {d f : Nat} {F : Fn} {vs : List Vl} {s s0 : Cells} {r : PyData} (hF : R.fns[f]? = some F) (hp : F.pure = true) (h : callF R (d + 1) f vs [] = .ok (.p r) s0) : callF R (d + 1) f vs s = .ok (.p r) s := by
  unfold callF at h ⊢
  rw [hF] at h ⊢
  simp only [hp, if_true] at h ⊢
  split at h
  · rename_i hb
    rw [if_pos hb]
    split at h
    · split at h
      · cases h
        rfl
      · cases h
    · cases h
  · cases h
end K95
set_option linter.all false
set_option autoImplicit false
set_option maxRecDepth 100000
set_option maxHeartbeats 4000000
namespace K95
open PySem Sh
theorem retQ_mono {Q Q' : Vl → Cells → Prop} (h : ∀ v s, Q v s → Q' v s) : ∀ (o : Out) (s : Cells), retQ Q o s → retQ Q' o s
  | .rt v, s, q => h v s q
  | .nx _, s, q => h _ s q
  | .bk _, _, q => q
  | .ct _, _, q => q
/-- a pure def, said as an equation -/
theorem callE {R : Pr} {d f : Nat} {F : Fn} {vs : List Vl} {s : Cells} {r : PyData} (hF : R.fns[f]? = some F) (hd : F.dfl = []) (hp : F.pure = true) (hl : vs.length = F.np) (hn : vs.all noRef = true)
    (h : Okk (evB (pgOf R d) F.body (vs.map some ++ List.replicate (F.nl - vs.length) none) []) (retQ fun v _ => v = .p r)) : callF R (d + 1) f vs s = .ok (.p r) s := by
  obtain ⟨v, s', e, h1, h2⟩ := callP (D := (· = r)) (Q := fun v s' => v = .p r ∧ s' = s) hF hd hp hl hn (h.mono (retQ_mono fun v s e => ⟨r, e, rfl⟩)) (fun q e => ⟨by rw [e], rfl⟩) |> fun h => (h : Okk (callF R (d + 1) f vs s) fun v s' => v = .p r ∧ s' = s)
  rw [e, h1, h2]
theorem allP_map : ∀ xs : List PyData, allP (xs.map .p) = some xs
  | [] => rfl
  | x :: r => by
    show (allP (r.map .p)).map (x :: ·) = _
    rw [allP_map r]
    rfl
theorem lcLoop_map {α : Type} {f : Vl → Cells → O (Option PyData)} {g : α → Vl} {h : α → PyData} : ∀ {xs : List α} {s : Cells}, (∀ x ∈ xs, f (g x) s = .ok (some (h x)) s) → lcLoop f (xs.map g) s = .ok (xs.map h) s
  | [], _, _ => rfl
  | x :: r, s, k => by
    show (f (g x) s).bind _ = _
    rw [k x List.mem_cons_self]
    show (lcLoop f (r.map g) s).bind _ = _
    rw [lcLoop_map fun y hy => k y (List.mem_cons_of_mem _ hy)]
    rfl
theorem turnE {P : Pg} {elt : E} {tg : Tg} {c : E} {slw : Sl} {x : Vl} {s : Cells} {d : PyData} (h : Okk (bindT P tg x slw s) fun sl s1 => Okk (evE P c sl s1) fun k s2 => truth s2 k = some true ∧ Okk (evE P elt sl s2) fun y s3 => y = .p d ∧ s3 = s) :
    lcTurn P elt tg c slw x s = .ok (some d) s := by
  obtain ⟨o, s', e, h1, h2⟩ := wTurn (Q := fun o s' => o = some d ∧ s' = s) (h.mono fun sl s1 h => h.mono fun k s2 ⟨t, h⟩ => ⟨t, h.mono fun y s3 ⟨e1, e2⟩ => ⟨d, e1, rfl, e2⟩⟩)
  rw [e, h1, h2]
theorem boolsOf_map : ∀ bs : List Bool, boolsOf (bs.map .bool) = some bs
  | [] => rfl
  | x :: r => by
    show (boolsOf (r.map .bool)).map (x :: ·) = _
    rw [boolsOf_map r]
    rfl
theorem all_ev {P : Pg} {bs : List Bool} {s : Cells} : bltV P .all [.p (.list (bs.map .bool))] s = .ok (.p (.bool (bs.all id))) s := by
  show (match boolsOf (bs.map PyData.bool) with | some bs => O.ok (Vl.p (.bool (bs.all id))) s | none => .bad) = _
  rw [boolsOf_map]
theorem any_ev {P : Pg} {bs : List Bool} {s : Cells} : bltV P .any [.p (.list (bs.map .bool))] s = .ok (.p (.bool (bs.any id))) s := by
  show (match boolsOf (bs.map PyData.bool) with | some bs => O.ok (Vl.p (.bool (bs.any id))) s | none => .bad) = _
  rw [boolsOf_map]
theorem cut1 {x : PyData} {X : List PyData} : cutL (x :: X) (some 1) none = X := by
  unfold cutL HT.sIx
  simp
theorem cut3 {a b c : PyData} {X : List PyData} : cutL (a :: b :: c :: X) (some 3) none = X := by
  unfold cutL HT.sIx
  simp
end K95
set_option linter.all false
set_option autoImplicit false
set_option maxRecDepth 100000
set_option maxHeartbeats 4000000
namespace K95
open PySem Sh
def sortsL : List Str := S ["plant", "task", "known", "target", "orders", "log"]
def teach : Str := Str.ofString "teach"
theorem cst_sorts : pr.cst (Str.ofString "SORTS") = some (.p (.tuple (sortsL.map .str))) := by kernel_rfl
theorem cst_teach : pr.cst (Str.ofString "TEACH") = some (.p (.str teach)) := by kernel_rfl
theorem cst_DD : pr.cst (Str.ofString "DESK_DEEDS") = some (.dic (Str.ofString "DESK_DEEDS")) := by kernel_rfl
theorem cst_AA : pr.cst (Str.ofString "DESK_ASKED") = some (.dic (Str.ofString "DESK_ASKED")) := by kernel_rfl
theorem cst_CC : pr.cst (Str.ofString "DESK_CLAIMS") = some (.dic (Str.ofString "DESK_CLAIMS")) := by kernel_rfl
theorem dic_DD : pr.dics (Str.ofString "DESK_DEEDS") = some DD := by kernel_rfl
theorem dic_AA : pr.dics (Str.ofString "DESK_ASKED") = some AA := by kernel_rfl
theorem dic_CC : pr.dics (Str.ofString "DESK_CLAIMS") = some CC := by kernel_rfl
def inSorts (b : Str) : Bool := (sortsL.map PyData.str).any fun z => PyData.eqv z (.str b)
theorem sorts_ev {P : Pg} {b : Str} {s : Cells} : cmpV P .isin (.p (.str b)) (.p (.tuple (sortsL.map .str))) s = some (inSorts b) := rfl
theorem isin_dic {P : Pg} {b g : Str} {D : List (Str × PyData)} {s : Cells} (h : P.dics g = some D) : cmpV P .isin (.p (.str b)) (.dic g) s = some (D.lookup b).isSome := by
  show (P.dics g).map _ = _
  rw [h]
  rfl
theorem ix_dic {P : Pg} {b g : Str} {D : List (Str × PyData)} {d : PyData} {s : Cells} (h : P.dics g = some D) (k : D.lookup b = some d) : ixV P (.dic g) (.p (.str b)) s = some (.p d) := by
  show (P.dics g).bind _ = _
  rw [h]
  show (D.lookup b).map Vl.p = _
  rw [k]
  rfl
theorem ixT0 {P : Pg} {x : PyData} {Y : List PyData} {s : Cells} : ixV P (.p (.tuple (x :: Y))) (.p (.int 0)) s = some (.p x) := by
  show L2.atI (Vl.p x :: Y.map .p) 0 = _
  unfold L2.atI L2.ixN
  simp
/-- what the desk's reading of a text comes to -/
def DeskR (r : PyData) (c o : Bool) : Prop := (r = .none ∧ c = false ∧ o = false) ∨ ∃ b0 fs, r = .tuple [.str b0, .list fs] ∧ inSorts b0 = false ∧ (b0 == teach) = false ∧ c = true ∧ o = (DD.lookup b0).isSome
section
variable {v : Str} {r : PyData} {c o : Bool} (h49 : ∀ s, callF pr 37 49 [.p (.str v)] s = .ok (.p r) s) (hr : DeskR r c o)
include h49 hr
theorem command_ev (s : Cells) : callF pr 38 50 [.p (.str v)] s = .ok (.p (.bool c)) s := by
  refine callE (F := f50) rfl rfl rfl rfl rfl ?_
  refine wBcons <| wRet <| wCmp <| wCall <| wCons <| wVar rfl <| wNil <| Okk.eq (h49 _) <| wNon ?_
  rcases hr with ⟨rfl, rfl, _⟩ | ⟨b0, fs, rfl, _, _, rfl, _⟩
  · exact ⟨false, rfl, rfl⟩
  · exact ⟨true, rfl, rfl⟩
theorem deed_ev (s : Cells) : callF pr 38 51 [.p (.str v)] s = .ok (.p (.bool o)) s := by
  refine callE (F := f51) rfl rfl rfl rfl rfl ?_
  refine wBcons <| wAsg <| wCall <| wCons <| wVar rfl <| wNil <| Okk.eq (h49 _) <| wNm <| wBcons <| wRet <| wBool <| wCmp <| wVar rfl <| wNon ?_
  rcases hr with ⟨rfl, _, rfl⟩ | ⟨b0, fs, rfl, h1, h2, _, rfl⟩
  · exact ⟨false, rfl, false, rfl, .inr ⟨rfl, rfl⟩⟩
  · refine ⟨true, rfl, true, rfl, .inl ⟨rfl, wOne <| wBool <| wCmp <| wIx <| wVar rfl <| wInt ⟨_, ixT0, wGlo cst_sorts ⟨false, ?_, false, rfl, .inl ⟨rfl, wBool <| wCmp <| wIx <| wVar rfl <| wInt ⟨_, ixT0, wGlo cst_teach ⟨false, ?_, false, rfl, .inl ⟨rfl, wOne <| wCmp <| wIx <| wVar rfl <| wInt ⟨_, ixT0, wGlo cst_DD ⟨_, isin_dic dic_DD, rfl⟩⟩⟩⟩⟩⟩⟩⟩⟩⟩
    · rw [sorts_ev, h1]
    · exact congrArg some h2
theorem asked (s : Cells) : callF pr 39 69 [.p (.str v), .p (.list [.bool c, .bool o])] s = .ok (.p (.bool true)) s := by
  have h1 := command_ev h49 hr
  have h2 := deed_ev h49 hr
  refine callE (F := f69) rfl rfl rfl rfl rfl ?_
  refine wBcons <| wRet <| wCmp <| wBlt <| wCons (wLst <| wCons <| wCall <| wCons <| wVar rfl <| wNil <| Okk.eq (h1 _) <| wCons <| wCall <| wCons <| wVar rfl <| wNil <| Okk.eq (h2 _) <| wCons <| wCallK <| wVar rfl <| Okk.eq (h1 _) <| wCons <| wCallK <| wVar rfl <| Okk.eq (h2 _) <| wNil ⟨_, rfl, wNil ?_⟩)
  refine Okk.eq (a := .p (.str (PyData.list [.bool c, .bool o, .bool c, .bool o]).shown)) (s := []) ?_ ?_
  · cases c <;> cases o <;> kernel_rfl
  refine wBlt <| wCons (wBin <| wVar rfl <| wInt ⟨.list [.bool c, .bool o, .bool c, .bool o], ?_, wNil ?_⟩)
  · rfl
  refine Okk.eq (a := .p (.str (PyData.list [.bool c, .bool o, .bool c, .bool o]).shown)) (s := []) ?_ ⟨true, ?_, rfl⟩
  · cases c <;> cases o <;> kernel_rfl
  · show some (_ == _) = some true
    rw [beq_self_eq_true]
end
end K95
set_option linter.all false
set_option autoImplicit false
set_option maxRecDepth 100000
set_option maxHeartbeats 4000000
namespace K95
open PySem Sh
theorem ix_list {P : Pg} {xs : List PyData} {k : Nat} {d : PyData} {s : Cells} (h : xs[k]? = some d) : ixV P (.p (.list xs)) (.p (.int k)) s = some (.p d) := by
  show L2.atI (xs.map Vl.p) (k : Int) = _
  have hk : k < xs.length := by
    rcases Nat.lt_or_ge k xs.length with h' | h'
    · exact h'
    · rw [List.getElem?_eq_none h'] at h; cases h
  unfold L2.atI L2.ixN
  rw [if_pos (by omega), if_pos (by rw [List.length_map]; omega)]
  show (xs.map Vl.p)[(k : Int).toNat]? = _
  rw [Int.toNat_natCast, List.getElem?_map, h]
  rfl
/-- the desk's kinds, by the head alone -/
def headK (b0 : Str) : PyData := match DD.lookup b0 with
  | some d => d
  | none => match AA.lookup b0 with
    | some d => d
    | none => .none
/-- the end of desk_kinds -/
theorem kinds_end {b0 : Str} {X : List PyData} {sl : Sl} (e : sl[1]? = some (some (.p (.str b0)))) {Q : Out → Cells → Prop} {s : Cells} (h : Q (.rt (.p (headK b0))) s) :
    Okk (evB (pgOf pr 35) (.cons (.ifs (.cmp .isin (.var 1) (.glo (Str.ofString "DESK_DEEDS"))) (.cons (.ret (.ix (.glo (Str.ofString "DESK_DEEDS")) (.var 1))) .nil) .nil) (.cons (.ret (.ife (.cmp .isin (.var 1) (.glo (Str.ofString "DESK_ASKED"))) (.ix (.glo (Str.ofString "DESK_ASKED")) (.var 1)) .non)) .nil)) sl s) Q := by
  unfold headK at h
  refine wBcons <| wIfs <| wCmp <| wVar e <| wGlo cst_DD ⟨_, isin_dic dic_DD, _, rfl, ?_⟩
  cases hD : DD.lookup b0 with
  | some d =>
    rw [hD] at h
    exact wBcons <| wRet <| wIx <| wGlo cst_DD <| wVar e ⟨_, ix_dic dic_DD hD, h⟩
  | none =>
    rw [hD] at h
    refine wBnil <| wBcons <| wRet <| wIfe <| wCmp <| wVar e <| wGlo cst_AA ⟨_, isin_dic dic_AA, _, rfl, ?_⟩
    cases hA : AA.lookup b0 with
    | some d =>
      rw [hA] at h
      exact wIx <| wGlo cst_AA <| wVar e ⟨_, ix_dic dic_AA hA, h⟩
    | none =>
      rw [hA] at h
      exact wNon h
theorem kinds_plain {b0 : Str} {X : List PyData} (h : (b0 == claim) = false) (s : Cells) : callF pr 36 46 [.p (.list (.str b0 :: X))] s = .ok (.p (headK b0)) s := by
  refine callE (F := f46) rfl rfl rfl rfl rfl ?_
  refine wBcons <| wAsg <| wIx <| wVar rfl <| wInt ⟨_, ix0, wNm <| wBcons <| wIfs <| wBool <| wCmp <| wVar rfl <| wStr ⟨_, rfl, _, rfl, .inr ⟨h, _, rfl, ?_⟩⟩⟩
  rw [show (b0 == Str.ofString "claim") = false from h]
  exact wBnil <| kinds_end (X := X) rfl rfl
def dcl : List PyData := [.str (Str.ofString "label"), .str (Str.ofString "word")]
theorem DD_claim : DD.lookup claim = some (.tuple dcl) := by kernel_rfl
theorem gt_ev {P : Pg} {i j : Int} {s : Cells} : cmpV P .gt (.p (.int i)) (.p (.int j)) s = some (decide (j < i)) := rfl
theorem kinds_claim {b1 b2 : Str} {X : List PyData} {ks : List PyData} (h : CC.lookup b2 = some (.tuple ks)) (hl : ks.length ≤ 10) (s : Cells) : callF pr 36 46 [.p (.list (.str claim :: .str b1 :: .str b2 :: X))] s = .ok (.p (.tuple (dcl ++ ks))) s := by
  refine callE (F := f46) rfl rfl rfl rfl rfl ?_
  refine wBcons <| wAsg <| wIx <| wVar rfl <| wInt ⟨_, ix0, wNm <| wBcons <| wIfs <| wBool <| wCmp <| wVar rfl <| wStr ⟨true, by kernel_rfl, _, rfl, .inl ⟨rfl, ?_⟩⟩⟩
  refine wBool <| wCmp <| wBlt <| wCons <| wVar rfl <| wNil <| Okk.eq len_ev <| wInt ⟨_, gt_ev, _, rfl, .inl ⟨decide_eq_true (by simp only [List.length_cons]; omega), ?_⟩⟩
  refine wOne <| wCmp <| wIx <| wVar rfl <| wInt ⟨.p (.str b2), ix_list (k := 2) rfl, wGlo cst_CC ⟨_, isin_dic dic_CC, _, rfl, ?_⟩⟩
  rw [h]
  refine wBcons <| wRet <| wBin <| wIx <| wGlo cst_DD <| wVar rfl ⟨_, ix_dic dic_DD DD_claim, wIx <| wGlo cst_CC <| wIx <| wVar rfl <| wInt ⟨.p (.str b2), ix_list (k := 2) rfl, _, ix_dic dic_CC h, .tuple (dcl ++ ks), ?_, rfl⟩⟩
  show (if Nat.ble (dcl.length + ks.length) sizeLine = true then some (PyData.tuple (dcl ++ ks)) else none) = _
  rw [if_pos (ble_of (Nat.le_trans (Nat.add_le_add_left hl _) (by decide)))]
theorem kinds_claim0 {b1 b2 : Str} {X : List PyData} (h : CC.lookup b2 = none) (s : Cells) : callF pr 36 46 [.p (.list (.str claim :: .str b1 :: .str b2 :: X))] s = .ok (.p (.tuple dcl)) s := by
  refine callE (F := f46) rfl rfl rfl rfl rfl ?_
  refine wBcons <| wAsg <| wIx <| wVar rfl <| wInt ⟨_, ix0, wNm <| wBcons <| wIfs <| wBool <| wCmp <| wVar rfl <| wStr ⟨true, by kernel_rfl, _, rfl, .inl ⟨rfl, ?_⟩⟩⟩
  refine wBool <| wCmp <| wBlt <| wCons <| wVar rfl <| wNil <| Okk.eq len_ev <| wInt ⟨_, gt_ev, _, rfl, .inl ⟨decide_eq_true (by simp only [List.length_cons]; omega), ?_⟩⟩
  refine wOne <| wCmp <| wIx <| wVar rfl <| wInt ⟨.p (.str b2), ix_list (k := 2) rfl, wGlo cst_CC ⟨_, isin_dic dic_CC, _, rfl, ?_⟩⟩
  rw [h]
  refine wBnil <| kinds_end (b0 := claim) (X := X) rfl ?_
  unfold headK
  rw [DD_claim]
  rfl
theorem kinds_claim1 {X : List PyData} (h : X.length ≤ 1) (s : Cells) : callF pr 36 46 [.p (.list (.str claim :: X))] s = .ok (.p (.tuple dcl)) s := by
  refine callE (F := f46) rfl rfl rfl rfl rfl ?_
  refine wBcons <| wAsg <| wIx <| wVar rfl <| wInt ⟨_, ix0, wNm <| wBcons <| wIfs <| wBool <| wCmp <| wVar rfl <| wStr ⟨true, by kernel_rfl, _, rfl, .inl ⟨rfl, ?_⟩⟩⟩
  have hd : decide (2 < ((PyData.str claim :: X).length : Int)) = false := decide_eq_false (by simp only [List.length_cons]; omega)
  refine wBool <| wCmp <| wBlt <| wCons <| wVar rfl <| wNil <| Okk.eq len_ev <| wInt ⟨_, gt_ev, _, rfl, .inr ⟨hd, false, congrArg some hd, ?_⟩⟩
  refine wBnil <| kinds_end (b0 := claim) (X := X) rfl ?_
  unfold headK
  rw [DD_claim]
  rfl
end K95
set_option linter.all false
set_option autoImplicit false
set_option maxRecDepth 100000
set_option maxHeartbeats 4000000
namespace K95
open PySem Sh
theorem split_ev {P : Pg} {B : List Str} {s : Cells} (h0 : B ≠ []) (h : ∀ x ∈ B, x ∈ Wd) (hl : Nat.ble ((Txt.join sp B).length + 2) sizeLine = true) : mthV P .split (.p (.str (Txt.join sp B))) [.p (.str sp)] s = .ok (.p (.list (B.map .str))) s := by
  show (if !(sp.length == 0) && Nat.ble ((Txt.join sp B).length + 2) sizeLine then O.ok (Vl.p (.list ((Txt.split (Txt.join sp B) sp).map .str))) s else .bad) = _
  rw [split_line h0 h, hl]
  rfl
theorem strsOf_map : ∀ xs : List Str, strsOf (xs.map .str) = some xs
  | [] => rfl
  | x :: r => by
    show (strsOf (r.map .str)).map (x :: ·) = _
    rw [strsOf_map r]
    rfl
theorem lenT_ev {P : Pg} {xs : List PyData} {s : Cells} : bltV P .len [.p (.tuple xs)] s = .ok (.p (.int xs.length)) s := by
  show O.ok (Vl.p (.int (xs.map Vl.p).length)) s = _
  rw [List.length_map]
theorem ne_ev {P : Pg} {i j : Int} {s : Cells} : cmpV P .ne (.p (.int i)) (.p (.int j)) s = some (!(i == j)) := rfl
section
variable {b0 : Str} {rest : List Str} (hin : ∀ x ∈ b0 :: rest, x ∈ Wd) (hs : inSorts b0 = false) (ht : (b0 == teach) = false) (hl : Nat.ble ((Txt.join sp (b0 :: rest)).length + 2) sizeLine = true)
include hin hs ht hl
/-- desk_parts up to the kinds -/
theorem parts_head {K r : PyData} (hK : ∀ s, callF pr 36 46 [.p (.list (.str b0 :: rest.map .str))] s = .ok (.p K) s)
    (h : Okk (evB (pgOf pr 36) (match f49.body with | .cons _ (.cons _ (.cons _ (.cons _ (.cons _ b)))) => b | b => b) [some (.p (.str (Txt.join sp (b0 :: rest)))), some (.p (.list (.str b0 :: rest.map .str))), some (.p K), none, none, none, none] []) (retQ fun v _ => v = .p r)) (s : Cells) :
    callF pr 37 49 [.p (.str (Txt.join sp (b0 :: rest)))] s = .ok (.p r) s := by
  refine callE (F := f49) rfl rfl rfl rfl rfl ?_
  refine wBcons <| wIfs <| wNot <| wBlt <| wCons <| wVar rfl <| wCons <| wTyc <| wNil <| Okk.eq (a := .p (.bool true)) (s := []) rfl ⟨true, rfl, false, rfl, wBnil ?_⟩
  refine wBcons <| wAsg <| wMth <| wVar rfl ⟨rfl, wCons <| wStr <| wNil <| Okk.eq (split_ev (List.cons_ne_nil _ _) hin hl) <| wNm ?_⟩
  refine wBcons <| wIfs <| wCmp <| wIx <| wVar rfl <| wInt ⟨_, ix0, wGlo cst_sorts ⟨false, hs ▸ sorts_ev, false, rfl, wBnil ?_⟩⟩
  refine wBcons <| wIfs <| wCmp <| wIx <| wVar rfl <| wInt ⟨_, ix0, wGlo cst_teach ⟨false, congrArg some ht, false, rfl, wBnil ?_⟩⟩
  exact wBcons <| wAsg <| wCall <| wCons <| wVar rfl <| wNil <| Okk.eq (hK _) <| wNm h
theorem parts_none (hK : ∀ s, callF pr 36 46 [.p (.list (.str b0 :: rest.map .str))] s = .ok (.p .none) s) (s : Cells) : callF pr 37 49 [.p (.str (Txt.join sp (b0 :: rest)))] s = .ok (.p .none) s :=
  parts_head hin hs ht hl hK (wBcons <| wIfs <| wBool <| wCmp <| wVar rfl <| wNon ⟨true, rfl, true, rfl, .inr ⟨rfl, true, rfl, wBcons <| wRet <| wNon rfl⟩⟩) s
theorem parts_long {kd : List PyData} (hK : ∀ s, callF pr 36 46 [.p (.list (.str b0 :: rest.map .str))] s = .ok (.p (.tuple kd)) s) (hn : kd.length ≠ rest.length) (s : Cells) : callF pr 37 49 [.p (.str (Txt.join sp (b0 :: rest)))] s = .ok (.p .none) s := by
  have hd : (!((kd.length : Int) == ((PyData.str b0 :: rest.map PyData.str).length : Int) - 1)) = true := by
    simp only [List.length_cons, List.length_map, Bool.not_eq_true', beq_eq_false_iff_ne]
    omega
  refine parts_head hin hs ht hl hK (wBcons <| wIfs <| wBool <| wCmp <| wVar rfl <| wNon ⟨false, rfl, false, rfl, .inl ⟨rfl, ?_⟩⟩) s
  exact wOne <| wCmp <| wBlt <| wCons <| wVar rfl <| wNil <| Okk.eq lenT_ev <| wBin <| wBlt <| wCons <| wVar rfl <| wNil <| Okk.eq len_ev <| wInt ⟨_, rfl, _, ne_ev, true, congrArg some hd, wBcons <| wRet <| wNon rfl⟩
theorem parts_full {kd : List PyData} {res : PyData × PyData → PyData} (hK : ∀ s, callF pr 36 46 [.p (.list (.str b0 :: rest.map .str))] s = .ok (.p (.tuple kd)) s) (hn : kd.length = rest.length) (h100 : rest.length ≤ 1000)
    (hp : ∀ q ∈ kd.zip (rest.map .str), (∀ s, callF pr 36 45 [.p q.1, .p q.2] s = .ok (.p (res q)) s) ∧ isD (res q) .none = some (isNo (res q))) (s : Cells) :
    callF pr 37 49 [.p (.str (Txt.join sp (b0 :: rest)))] s = .ok (.p (match (kd.zip (rest.map .str)).any fun q => isNo (res q) with | true => .none | false => .tuple [.str b0, .list ((kd.zip (rest.map .str)).map res)])) s := by
  have hd : (!((kd.length : Int) == ((PyData.str b0 :: rest.map PyData.str).length : Int) - 1)) = false := by
    simp only [List.length_cons, List.length_map, Bool.not_eq_false', beq_iff_eq]
    omega
  refine parts_head hin hs ht hl hK (wBcons <| wIfs <| wBool <| wCmp <| wVar rfl <| wNon ⟨false, rfl, false, rfl, .inl ⟨rfl, ?_⟩⟩) s
  refine wOne <| wCmp <| wBlt <| wCons <| wVar rfl <| wNil <| Okk.eq lenT_ev <| wBin <| wBlt <| wCons <| wVar rfl <| wNil <| Okk.eq len_ev <| wInt ⟨_, rfl, _, ne_ev, false, congrArg some hd, wBnil ?_⟩
  have hz : (kd.zip (rest.map PyData.str)).length ≤ 1000 := by
    rw [List.length_zip]
    omega
  generalize hZ : kd.zip (rest.map PyData.str) = Z at hp hz ⊢
  refine wBcons <| wAsg <| wLc <| wZip <| wVar rfl <| wSl <| wVar rfl <| wInt <| wNon ⟨_, _, _, rfl, rfl, rfl, kd.map .p, (rest.map .str).map .p, kd, rest.map .str, rfl, ?_, allP_map _, allP_map _, ?_⟩
  · rw [cut1]
    rfl
  rw [hZ]
  refine Okk.eq (lcLoop_map (h := res) fun q hq => turnE <| wTp rfl <| wTcons <| wNm <| wTcons <| wNm <| wTnil <| wBl ⟨rfl, wCall <| wCons <| wVar rfl <| wCons <| wVar rfl <| wNil <| Okk.eq ((hp q hq).1 _) ⟨rfl, rfl⟩⟩) ⟨ble_of (by rw [List.length_map]; exact Nat.le_trans hz (by decide)), wNm ?_⟩
  refine wBcons <| wRet <| wIfe <| wBlt <| wCons (wLc <| wVal <| wVar rfl ⟨_, rfl, ?_⟩)
  refine Okk.eq (lcLoop_map (g := Vl.p) (h := fun d => .bool (isNo d)) fun d hd => turnE <| wNm <| wBl ⟨rfl, wCmp <| wVar rfl <| wNon ⟨isNo d, ?_, rfl, rfl⟩⟩) ⟨ble_of (by rw [List.length_map, List.length_map]; exact Nat.le_trans hz (by decide)), wNil ?_⟩
  · obtain ⟨q, hq, rfl⟩ := List.mem_map.mp hd
    exact (hp q hq).2
  have e : (Z.map res).map (fun d => PyData.bool (isNo d)) = (Z.map fun q => isNo (res q)).map .bool := by
    rw [List.map_map, List.map_map]
    rfl
  rw [e]
  refine Okk.eq any_ev ⟨_, rfl, ?_⟩
  rw [show (Z.map fun q => isNo (res q)).any id = Z.any fun q => isNo (res q) by rw [List.any_map]; rfl]
  cases Z.any fun q => isNo (res q) with
  | true => exact wNon rfl
  | false => exact wTup <| wCons <| wIx <| wVar rfl <| wInt ⟨_, ix0, wCons <| wVar rfl <| wNil ⟨_, rfl, rfl⟩⟩
end
end K95
set_option linter.all false
set_option autoImplicit false
set_option maxRecDepth 100000
set_option maxHeartbeats 4000000
namespace K95
open PySem Sh
theorem forLoop_first {α : Type} {f : Vl → Sl → Cells → O Out} {g : α → Vl} {hit : α → Bool} (I : Sl → Cells → Prop) (R : α → Vl → Prop) : ∀ {xs : List α} {sl : Sl} {s : Cells}, (∀ x ∈ xs, ∀ sl s, I sl s → Okk (f (g x) sl s) fun o s => (hit x = true ∧ ∃ v, o = .rt v ∧ R x v) ∨ (hit x = false ∧ ∃ sl', o = .nx sl' ∧ I sl' s)) → I sl s →
    Okk (forLoop f (xs.map g) sl s) fun o s => (∃ x, xs.find? hit = some x ∧ ∃ v, o = .rt v ∧ R x v) ∨ (xs.find? hit = none ∧ ∃ sl', o = .nx sl' ∧ I sl' s)
  | [], sl, s, _, h => .ret (.inr ⟨rfl, sl, rfl, h⟩)
  | x :: r, sl, s, hf, h => by
    refine Okk.bind ((hf x List.mem_cons_self sl s h).mono fun o s hh => ?_)
    rcases hh with ⟨h1, v, rfl, h2⟩ | ⟨h1, sl', rfl, h2⟩
    · refine .ret (.inl ⟨x, ?_, v, rfl, h2⟩)
      rw [List.find?_cons, h1]
    · refine (forLoop_first I R (fun y hy => hf y (List.mem_cons_of_mem _ hy)) h2).mono fun o s hh => ?_
      rw [List.find?_cons, h1]
      exact hh
def zipAll (ls ws : List Str) : Bool := (ls.zip ws).all fun q => partOk q.1 q.2
theorem allP_strs (ks : List Str) : allP (ks.map fun k => Vl.p (.str k)) = some (ks.map .str) := by
  rw [← allP_map (ks.map PyData.str), List.map_map]
  rfl
/-- every letter of a row's kinds runs on every word -/
theorem letter_ev {l w : Str} (hl : ∃ m, (l, m) ∈ menus) (hw : w ∈ Wd) (s : Cells) : callF pr 38 62 [.p (.str l), .p (.str w)] s = .ok (.p (.bool (partOk l w))) s := by
  have key : (boolOf (callF pr 38 62 [.p (.str l), .p (.str w)] [])).isSome = true := by
    have one : ∀ {l k : Str}, (Wd.all (chk l k)) = true → (boolOf (callF pr 38 62 [.p (.str l), .p (.str w)] [])).isSome = true := fun {l k} h => by
      have := List.all_eq_true.mp h w hw
      unfold chk at this
      split at this
      · rename_i e
        rw [e]
        rfl
      · cases this
    obtain ⟨m, hm⟩ := hl
    simp only [menus, List.mem_cons, Prod.mk.injEq, List.not_mem_nil, or_false] at hm
    rcases hm with ⟨rfl, _⟩ | ⟨rfl, _⟩ | ⟨rfl, _⟩ | ⟨rfl, _⟩ | ⟨rfl, _⟩ | ⟨rfl, _⟩
    · exact one chk_n_plant
    · exact one chk_c_number
    · exact one chk_r_reading
    · exact one chk_l_list
    · exact one chk_f_fraction
    · exact one chk_s_stretch
  unfold partOk
  cases e : callF pr 38 62 [.p (.str l), .p (.str w)] [] with
  | bad => rw [e] at key; cases key
  | ok v s0 =>
    rw [e] at key
    unfold boolOf at key
    split at key
    · rename_i b _ e2
      cases e2
      exact pure_any (F := f62) rfl rfl e
    · cases key
theorem lenS_ev {P : Pg} {x : Str} {s : Cells} (h : x.length ≤ 1000) : bltV P .len [.p (.str x)] s = .ok (.p (.int x.length)) s := by
  show (if fits x = true then O.ok (Vl.p (.int x.length)) s else .bad) = _
  rw [if_pos (show fits x = true from ble_of (Nat.le_trans h (by decide)))]
theorem eqI_ev {P : Pg} {i j : Int} {s : Cells} : cmpV P .eq (.p (.int i)) (.p (.int j)) s = some (i == j) := rfl
/-- all the parts of a row, read by the law -/
theorem zip_law {ks : Str} {ws : List Str} {slw : Sl} {own : List (Str × Nat)} {a b : E} {sl : Sl} {Q : Vl → Cells → Prop} (hk : ∀ k ∈ sgn ks, ∃ m, (k, m) ∈ menus) (hw : ∀ w ∈ ws, w ∈ Wd) (hl : ws.length ≤ 1000)
    (h5 : ∀ u v : Vl, (((wipeS sl (own.map (·.2))).set 5 (some u)).set 6 (some v))[5]? = some (some u)) (h6 : ∀ u v : Vl, (((wipeS sl (own.map (·.2))).set 5 (some u)).set 6 (some v))[6]? = some (some v))
    (h : Okk (evE (pgOf pr 38) a sl []) fun x s => x = .p (.str ks) ∧ Okk (evE (pgOf pr 38) b sl s) fun y s => y = .p (.list (ws.map .str)) ∧ s = [] ∧ Q (.p (.bool (zipAll (sgn ks) ws))) []) :
    Okk (evE (pgOf pr 38) (.blt .all (.cons (.lc (.call 62 (.cons (.var 5) (.cons (.var 6) .nil))) (.tp (.cons (.nm 5) (.cons (.nm 6) .nil))) (.zip a b) (.bl true) own) .nil)) sl []) Q := by
  refine wBlt <| wCons (wLc <| wZip <| h.mono fun x s ⟨e, h⟩ => h.mono fun y s ⟨e2, e3, q⟩ => ?_)
  subst e e2 e3
  refine ⟨_, _, _, _, sgn_items _ _, rfl, allP_strs _, allP_map _, ?_⟩
  have hz : ((((sgn ks).map PyData.str).zip (ws.map PyData.str)).map fun q => Vl.p (.tuple [q.1, q.2])) = ((sgn ks).zip ws).map fun q => Vl.p (.tuple [.str q.1, .str q.2]) := by
    rw [List.zip_map, List.map_map]
    rfl
  rw [hz]
  refine Okk.eq (lcLoop_map (h := fun q => .bool (partOk q.1 q.2)) fun q hq => turnE <| wTp rfl <| wTcons <| wNm <| wTcons <| wNm <| wTnil <| wBl ⟨rfl, wCall <| wCons <| wVar (h5 _ _) <| wCons <| wVar (h6 _ _) <| wNil <| Okk.eq (letter_ev (hk _ (List.of_mem_zip hq).1) (hw _ (List.of_mem_zip hq).2) _) ⟨rfl, rfl⟩⟩) ⟨ble_of ?_, wNil ?_⟩
  · rw [List.length_map, List.length_zip]
    exact Nat.le_trans (Nat.min_le_right _ _) (Nat.le_trans hl (by decide))
  rw [show (((sgn ks).zip ws).map fun q => PyData.bool (partOk q.1 q.2)) = (((sgn ks).zip ws).map fun q => partOk q.1 q.2).map .bool by rw [List.map_map]; rfl]
  refine Okk.eq all_ev ?_
  rw [show (((sgn ks).zip ws).map fun q => partOk q.1 q.2).all id = zipAll (sgn ks) ws by rw [List.all_map]; rfl]
  exact q
end K95
set_option linter.all false
set_option autoImplicit false
set_option maxRecDepth 100000
set_option maxHeartbeats 4000000
namespace K95
open PySem Sh
/-- what the law's own look says of words -/
def due (b0 : Str) (rest : List Str) : Bool × Bool := match tbl.find? (fun r => b0 == r.1) with
  | some r => (((rest.length : Int) + 1 == (r.2.1.length : Int) + 1) && zipAll (sgn r.2.1) rest, (((rest.length : Int) + 1 == (r.2.1.length : Int) + 1) && zipAll (sgn r.2.1) rest) && r.2.2)
  | none => match b0 == claim with
    | false => (false, false)
    | true => match rest with
      | b1 :: b2 :: X => match cls.find? (fun r => b2 == r.1) with
        | some r => let k := ((((X.length : Int) + 1 + 1 + 1 == (r.2.length : Int) + 3) && partOk (Str.ofString "n") b1) && zipAll (sgn r.2) X); (k, k)
        | none => (false, false)
      | _ => (false, false)
theorem due_row {b0 : Str} {rest : List Str} {r : Str × Str × Bool} (h : tbl.find? (fun r => b0 == r.1) = some r) : due b0 rest = (((rest.length : Int) + 1 == (r.2.1.length : Int) + 1) && zipAll (sgn r.2.1) rest, (((rest.length : Int) + 1 == (r.2.1.length : Int) + 1) && zipAll (sgn r.2.1) rest) && r.2.2) := by
  unfold due
  rw [h]
theorem due_other {b0 : Str} {rest : List Str} (h : tbl.find? (fun r => b0 == r.1) = none) (hc : (b0 == claim) = false) : due b0 rest = (false, false) := by
  unfold due
  rw [h, hc]
theorem due_short {b0 : Str} {rest : List Str} (h : tbl.find? (fun r => b0 == r.1) = none) (hl : rest.length ≤ 1) : due b0 rest = (false, false) := by
  unfold due
  rw [h]
  cases b0 == claim with
  | false => rfl
  | true =>
    match rest, hl with
    | [], _ => rfl
    | [_], _ => rfl
    | _ :: _ :: _, hl => simp only [List.length_cons] at hl; omega
def dueK (b1 : Str) (X : List Str) (r : Str × Str) : Bool := (((X.length : Int) + 1 + 1 + 1 == (r.2.length : Int) + 3) && partOk (Str.ofString "n") b1) && zipAll (sgn r.2) X
theorem due_claim {b0 b1 b2 : Str} {X : List Str} {r : Str × Str} (h : tbl.find? (fun r => b0 == r.1) = none) (hc : (b0 == claim) = true) (h2 : cls.find? (fun r => b2 == r.1) = some r) : due b0 (b1 :: b2 :: X) = (dueK b1 X r, dueK b1 X r) := by
  unfold due
  rw [h, hc]
  show (match cls.find? (fun r => b2 == r.1) with | some r => _ | none => _) = _
  rw [h2]
  rfl
theorem due_noclaim {b0 b1 b2 : Str} {X : List Str} (h : tbl.find? (fun r => b0 == r.1) = none) (hc : (b0 == claim) = true) (h2 : cls.find? (fun r => b2 == r.1) = none) : due b0 (b1 :: b2 :: X) = (false, false) := by
  unfold due
  rw [h, hc]
  show (match cls.find? (fun r => b2 == r.1) with | some r => _ | none => _) = _
  rw [h2]
theorem ixL {P : Pg} {xs : List Str} {k : Nat} {d : Str} {s : Cells} (h : xs[k]? = some d) : ixV P (.p (.list (xs.map .str))) (.p (.int k)) s = some (.p (.str d)) :=
  ix_list (by rw [List.getElem?_map, h]; rfl)
theorem lenL {P : Pg} {xs : List Str} {s : Cells} : bltV P .len [.p (.list (xs.map .str))] s = .ok (.p (.int xs.length)) s := by
  rw [len_ev, List.length_map]
theorem eqS_ev {P : Pg} {x y : Str} {s : Cells} : cmpV P .eq (.p (.str x)) (.p (.str y)) s = some (x == y) := rfl
theorem run_bool {d f : Nat} {F : Fn} {vs : List Vl} {b : Bool} (hF : pr.fns[f]? = some F) (hp : F.pure = true) (h : boolOf (callF pr (d + 1) f vs []) = some b) (s : Cells) : callF pr (d + 1) f vs s = .ok (.p (.bool b)) s := by
  cases e : callF pr (d + 1) f vs [] with
  | bad => rw [e] at h; cases h
  | ok v s0 =>
    rw [e] at h
    unfold boolOf at h
    split at h
    · rename_i b' _ e2
      cases e2
      cases h
      exact pure_any hF hp e
    · cases h
theorem name_ev {w : Str} (hw : w ∈ Wd) (s : Cells) : callF pr 38 57 [.p (.str w)] s = .ok (.p (.bool (partOk (Str.ofString "n") w))) s :=
  run_bool (F := f57) rfl rfl (of_decide_eq_true (List.all_eq_true.mp name_runs w hw)) s
/-- the slots of the law's look, while it seeks -/
def I63 (V : Vl) (sl : Sl) (s : Cells) : Prop := ∃ a b c d e f, sl = [some V, a, b, c, d, e, f] ∧ s = []
theorem truthB {s : Cells} {b : Bool} : truth s (.p (.bool b)) = some b := rfl
section
variable {b0 : Str} {rest : List Str} (hin : ∀ x ∈ b0 :: rest, x ∈ Wd) (hl : rest.length ≤ 900)
include hin hl
theorem row_turn {r : Str × Str × Bool} (hr : r ∈ tbl) {sl : Sl} {s : Cells} (hi : I63 (.p (.list ((b0 :: rest).map .str))) sl s) :
    Okk (forTurn (pgOf pr 38) (.tp (.cons (.nm 1) (.cons (.nm 2) (.cons (.nm 3) .nil)))) (match f63.body with | .cons (.for _ _ b) _ => b | b => b) (.p (rowD r)) sl s) fun o s =>
      ((b0 == r.1) = true ∧ ∃ v, o = .rt v ∧ v = .p (.list [.bool (((rest.length : Int) + 1 == (r.2.1.length : Int) + 1) && zipAll (sgn r.2.1) rest), .bool ((((rest.length : Int) + 1 == (r.2.1.length : Int) + 1) && zipAll (sgn r.2.1) rest) && r.2.2)])) ∨
      ((b0 == r.1) = false ∧ ∃ sl', o = .nx sl' ∧ I63 (.p (.list ((b0 :: rest).map .str))) sl' s) := by
  obtain ⟨a, b, c, d, e, f, rfl, rfl⟩ := hi
  obtain ⟨q1, q2⟩ := ks_short
  refine Okk.bind <| wTp (xs := [.p (.str r.1), .p (.str r.2.1), .p (.bool r.2.2)]) rfl <| wTcons <| wNm <| wTcons <| wNm <| wTcons <| wNm <| wTnil ?_
  refine wBcons <| wIfs <| wCmp <| wIx <| wVar rfl <| wInt ⟨_, ixL (k := 0) rfl, wVar rfl ⟨_, eqS_ev, _, truthB, ?_⟩⟩
  cases hb : b0 == r.1 with
  | false => exact wBnil (wBnil (.inr ⟨rfl, _, rfl, _, _, _, _, _, _, rfl, rfl⟩))
  | true =>
    refine wBcons <| wAsg <| wCmp <| wBlt <| wCons <| wVar rfl <| wNil <| Okk.eq lenL <| wBin <| wBlt <| wCons <| wVar rfl <| wNil <| Okk.eq (lenS_ev (Nat.le_trans (q1 r hr) (by decide))) <| wInt ⟨_, rfl, _, eqI_ev, wNm ?_⟩
    have e1 : (((b0 :: rest).length : Int) == (r.2.1.length : Int) + 1) = ((rest.length : Int) + 1 == (r.2.1.length : Int) + 1) := by
      rw [List.length_cons]
      rfl
    rw [e1]
    generalize hk : ((rest.length : Int) + 1 == (r.2.1.length : Int) + 1) = k
    have fin : ∀ (k' : Bool) (Q : Out → Cells → Prop), Q (.rt (.p (.list [.bool k', .bool (k' && r.2.2)]))) [] → Okk (evB (pgOf pr 38) (.cons (.ret (.lst (.cons (.var 4) (.cons (.bool true (.var 4) (.one (.var 3))) .nil)))) .nil) [some (.p (.list ((b0 :: rest).map .str))), some (.p (.str r.1)), some (.p (.str r.2.1)), some (.p (.bool r.2.2)), some (.p (.bool k')), e, f] []) Q := fun k' Q hq => by
      refine wBcons <| wRet <| wLst <| wCons <| wVar rfl <| wCons <| wBool <| wVar rfl ⟨k', truthB, ?_⟩
      cases k' with
      | true => exact .inl ⟨rfl, wOne <| wVar rfl <| wNil ⟨_, rfl, hq⟩⟩
      | false => exact .inr ⟨rfl, wNil ⟨_, rfl, hq⟩⟩
    refine wBcons <| wAsg <| wBool <| wVar rfl ⟨k, truthB, ?_⟩
    cases k with
    | false => exact .inr ⟨rfl, wNm (fin false _ (.inl ⟨rfl, _, rfl, rfl⟩))⟩
    | true =>
      refine .inl ⟨rfl, wOne ?_⟩
      refine zip_law (slw := []) (ks := r.2.1) (ws := rest) (fun k hk => kinds_in k (.inl ⟨r, hr, hk⟩)) (fun w hw => hin w (List.mem_cons_of_mem _ hw)) (Nat.le_trans hl (by decide)) (fun _ _ => rfl) (fun _ _ => rfl) ?_
      refine wVar rfl ⟨rfl, wSl <| wVar rfl <| wInt <| wNon ⟨_, _, _, rfl, rfl, rfl, ?_, rfl, wNm (fin _ _ (.inl ⟨rfl, _, rfl, rfl⟩))⟩⟩
      rw [List.map_cons, cut1]
theorem due_ev (s : Cells) : callF pr 39 63 [.p (.list ((b0 :: rest).map .str))] s = .ok (.p (.list [.bool (due b0 rest).1, .bool (due b0 rest).2])) s := by
  obtain ⟨q1, q2⟩ := ks_short
  refine callE (F := f63) rfl rfl rfl rfl rfl ?_
  refine wBcons <| wFor <| wVal <| wCall <| wNil <| Okk.eq (table_ev 37 []) ⟨tbl.map fun r => .p (rowD r), by rw [show (tbl.map fun r => Vl.p (rowD r)) = (tbl.map rowD).map .p by rw [List.map_map]; rfl]; rfl, ?_⟩
  refine (forLoop_first (I63 (.p (.list ((b0 :: rest).map .str)))) (fun r v => v = _) (fun r hr sl s hi => row_turn hin hl hr hi) ⟨_, _, _, _, _, _, rfl, rfl⟩).mono fun o s h => ?_
  rcases h with ⟨r, hf, v, rfl, rfl⟩ | ⟨hf, sl, rfl, hi⟩
  · rw [due_row hf]
    exact rfl
  obtain ⟨a, b, c, d, e, f, rfl, rfl⟩ := hi
  have out : ∀ (V a b c d e f : Option Vl), Okk (evB (pgOf pr 38) (.cons (.ret (.lst (.cons (.bl false) (.cons (.bl false) .nil)))) .nil) [V, a, b, c, d, e, f] []) (retQ fun v _ => v = .p (.list [.bool false, .bool false])) := fun V a b c d e f =>
    wBcons <| wRet <| wLst <| wCons <| wBl <| wCons <| wBl <| wNil ⟨_, rfl, rfl⟩
  refine wBcons <| wIfs <| wBool <| wCmp <| wIx <| wVar rfl <| wInt ⟨_, ixL (k := 0) rfl, wStr ⟨_, eqS_ev, _, truthB, ?_⟩⟩
  rw [show (b0 == Str.ofString "claim") = (b0 == claim) from rfl]
  cases hb : b0 == claim with
  | false =>
    rw [due_other hf hb]
    exact .inr ⟨rfl, _, truthB, wBnil (out _ _ _ _ _ _ _)⟩
  | true =>
    refine .inl ⟨rfl, wOne <| wCmp <| wBlt <| wCons <| wVar rfl <| wNil <| Okk.eq lenL <| wInt ⟨_, gt_ev, _, truthB, ?_⟩⟩
    match rest, hin, hl with
    | [], _, _ =>
      rw [due_short hf (by simp)]
      exact wBnil (out _ _ _ _ _ _ _)
    | [_], _, _ =>
      rw [due_short hf (by simp)]
      exact wBnil (out _ _ _ _ _ _ _)
    | b1 :: b2 :: X, hin, hl =>
      rw [show decide ((2 : Int) < ((b0 :: b1 :: b2 :: X).length : Int)) = true from decide_eq_true (by simp only [List.length_cons]; omega)]
      refine wBcons <| wFor <| wVal <| wCall <| wNil <| Okk.eq (claims_ev 37 []) ⟨cls.map fun r => .p (clsD r), by rw [show (cls.map fun r => Vl.p (clsD r)) = (cls.map clsD).map .p by rw [List.map_map]; rfl]; rfl, ?_⟩
      refine (forLoop_first (hit := fun r => b2 == r.1) (I63 (.p (.list ((b0 :: b1 :: b2 :: X).map .str)))) (fun r v => v = .p (.list [.bool (dueK b1 X r), .bool (dueK b1 X r)])) (fun r hr sl s hi => ?_) ⟨_, _, _, _, _, _, rfl, rfl⟩).mono fun o s h => ?_
      · obtain ⟨a, b, c, d, e, f, rfl, rfl⟩ := hi
        refine Okk.bind <| wTp (xs := [.p (.str r.1), .p (.str r.2)]) rfl <| wTcons <| wNm <| wTcons <| wNm <| wTnil ?_
        refine wBcons <| wIfs <| wCmp <| wIx <| wVar rfl <| wInt ⟨_, ixL (k := 2) rfl, wVar rfl ⟨_, eqS_ev, _, truthB, ?_⟩⟩
        cases hb2 : b2 == r.1 with
        | false => exact wBnil (wBnil (.inr ⟨rfl, _, rfl, _, _, _, _, _, _, rfl, rfl⟩))
        | true =>
          have fin : ∀ (k' : Bool) (Q : Out → Cells → Prop), Q (.rt (.p (.list [.bool k', .bool k']))) [] → Okk (evB (pgOf pr 38) (.cons (.ret (.lst (.cons (.var 4) (.cons (.var 4) .nil)))) .nil) [some (.p (.list ((b0 :: b1 :: b2 :: X).map .str))), some (.p (.str r.1)), some (.p (.str r.2)), c, some (.p (.bool k')), e, f] []) Q := fun k' Q hq =>
            wBcons <| wRet <| wLst <| wCons <| wVar rfl <| wCons <| wVar rfl <| wNil ⟨_, rfl, hq⟩
          have mid : ∀ (k' : Bool) (Q : Out → Cells → Prop), Q (.rt (.p (.list [.bool (k' && zipAll (sgn r.2) X), .bool (k' && zipAll (sgn r.2) X)]))) [] → Okk (evB (pgOf pr 38) (match f63.body with | .cons _ (.cons (.ifs _ (.cons (.for _ _ (.cons (.ifs _ (.cons _ b) _) _)) _) _) _) => b | b => b) [some (.p (.list ((b0 :: b1 :: b2 :: X).map .str))), some (.p (.str r.1)), some (.p (.str r.2)), c, some (.p (.bool k')), e, f] []) Q := fun k' Q hq => by
            refine wBcons <| wAsg <| wBool <| wVar rfl ⟨k', truthB, ?_⟩
            cases k' with
            | false => exact .inr ⟨rfl, wNm (fin false _ hq)⟩
            | true =>
              refine .inl ⟨rfl, wOne ?_⟩
              refine zip_law (slw := []) (ks := r.2) (ws := X) (fun k hk => kinds_in k (.inr ⟨r, hr, hk⟩)) (fun w hw => hin w (List.mem_cons_of_mem _ (List.mem_cons_of_mem _ (List.mem_cons_of_mem _ hw)))) (by simp only [List.length_cons] at hl; omega) (fun _ _ => rfl) (fun _ _ => rfl) ?_
              refine wVar rfl ⟨rfl, wSl <| wVar rfl <| wInt <| wNon ⟨_, _, _, rfl, rfl, rfl, ?_, rfl, wNm (fin _ _ hq)⟩⟩
              rw [List.map_cons, List.map_cons, List.map_cons, cut3]
          refine wBcons <| wAsg <| wBool <| wCmp <| wBlt <| wCons <| wVar rfl <| wNil <| Okk.eq lenL <| wBin <| wBlt <| wCons <| wVar rfl <| wNil <| Okk.eq (lenS_ev (Nat.le_trans (q2 r hr) (by decide))) <| wInt ⟨_, rfl, _, eqI_ev, _, truthB, ?_⟩
          have e1 : (((b0 :: b1 :: b2 :: X).length : Int) == (r.2.length : Int) + 3) = ((X.length : Int) + 1 + 1 + 1 == (r.2.length : Int) + 3) := by
            rw [List.length_cons, List.length_cons, List.length_cons]
            rfl
          rw [e1]
          unfold dueK
          cases ((X.length : Int) + 1 + 1 + 1 == (r.2.length : Int) + 3) with
          | false => exact .inr ⟨rfl, wNm (mid false _ (.inl ⟨rfl, _, rfl, rfl⟩))⟩
          | true =>
            refine .inl ⟨rfl, wOne <| wCall <| wCons <| wIx <| wVar rfl <| wInt ⟨_, ixL (k := 1) rfl, wNil <| Okk.eq (name_ev (hin b1 (by simp)) _) (wNm (mid _ _ (.inl ⟨rfl, _, rfl, rfl⟩)))⟩⟩
      · rcases h with ⟨r, hf2, v, rfl, rfl⟩ | ⟨hf2, sl, rfl, hi⟩
        · rw [due_claim hf hb hf2]
          exact rfl
        · obtain ⟨a, b, c, d, e, f, rfl, rfl⟩ := hi
          rw [due_noclaim hf hb hf2]
          exact wBnil (out _ _ _ _ _ _ _)
end
end K95
set_option linter.all false
set_option autoImplicit false
set_option maxRecDepth 100000
set_option maxHeartbeats 4000000
namespace K95
open PySem Sh
/-- what the desk makes of a word by a kind -/
def resOf (q : PyData × PyData) : PyData := match q.1, q.2 with
  | .str k, .str w => match partD k w with
    | .ok (.p d) _ => d
    | _ => .none
  | _, _ => .none
def Good (l k : Str) : Prop := ∀ w ∈ Wd, (∀ s, callF pr 36 45 [.p (.str k), .p (.str w)] s = .ok (.p (resOf (.str k, .str w))) s) ∧ isD (resOf (.str k, .str w)) .none = some (isNo (resOf (.str k, .str w))) ∧ isNo (resOf (.str k, .str w)) = !partOk l w
theorem isD_no {d : PyData} (h : (isD d .none).isSome = true) : isD d .none = some (isNo d) := by
  cases d <;> first | rfl | cases h
theorem good_of {l k k' : Str} (h : (Wd.all (chk l k)) = true) (e : ∀ w, partD k' w = partD k w) : Good l k' := fun w hw => by
  have hc := List.all_eq_true.mp h w hw
  unfold chk at hc
  rw [← e w] at hc
  have hr : resOf (.str k', .str w) = match partD k' w with | .ok (.p d) _ => d | _ => .none := rfl
  split at hc
  · rename_i d s0 b e1 e2
    rw [hr, e1]
    obtain ⟨h1, h2⟩ := (Bool.and_eq_true _ _).mp hc
    refine ⟨fun s => pure_any (F := f45) rfl rfl e1, isD_no h1, ?_⟩
    show isNo d = !partOk l w
    unfold partOk
    rw [e2]
    exact eq_of_beq h2
  · cases hc
/-- the pairs that are looked at -/
def gl : List (Str × Str) := [("n", "plant"), ("n", "task"), ("n", "known"), ("n", "target"), ("n", "orders"), ("n", "log"), ("n", "new"), ("n", "name"), ("n", "label"), ("n", "other"), ("c", "number"), ("r", "reading"), ("l", "list"), ("f", "fraction"), ("s", "stretch")].map fun q => (Str.ofString q.1, Str.ofString q.2)
theorem gl_good : ∀ q ∈ gl, Good q.1 q.2 := by
  intro q hq
  simp only [gl, List.map_cons, List.map_nil, List.mem_cons, List.not_mem_nil, or_false] at hq
  rcases hq with rfl | rfl | rfl | rfl | rfl | rfl | rfl | rfl | rfl | rfl | rfl | rfl | rfl | rfl | rfl
  · exact good_of chk_n_plant fun _ => rfl
  · exact good_of chk_n_plant same_task
  · exact good_of chk_n_plant same_known
  · exact good_of chk_n_plant same_target
  · exact good_of chk_n_plant same_orders
  · exact good_of chk_n_plant same_log
  · exact good_of chk_n_plant same_new
  · exact good_of chk_n_plant same_name
  · exact good_of chk_n_plant same_label
  · exact good_of chk_n_plant same_other
  · exact good_of chk_c_number fun _ => rfl
  · exact good_of chk_r_reading fun _ => rfl
  · exact good_of chk_l_list fun _ => rfl
  · exact good_of chk_f_fraction fun _ => rfl
  · exact good_of chk_s_stretch fun _ => rfl
def GL (l : Str) (d : PyData) : Prop := ∃ k, d = .str k ∧ Good l k
def twin : List Str → List PyData → Bool
  | [], [] => true
  | l :: ls, .str k :: ds => (gl.any fun g => decide (g = (l, k))) && twin ls ds
  | _, _ => false
theorem twin_ok : ∀ {ls : List Str} {ds : List PyData}, twin ls ds = true → All2 GL ls ds
  | [], [], _ => .nil
  | l :: ls, .str k :: ds, h => by
    obtain ⟨h1, h2⟩ := (Bool.and_eq_true _ _).mp h
    obtain ⟨g, hg, e⟩ := List.any_eq_true.mp h1
    have e := of_decide_eq_true e
    refine .cons ⟨k, rfl, ?_⟩ (twin_ok h2)
    have := gl_good g hg
    rw [e] at this
    exact this
theorem zip_any : ∀ {ls : List Str} {kd : List PyData} {ws : List Str}, All2 GL ls kd → (∀ w ∈ ws, w ∈ Wd) → ((kd.zip (ws.map .str)).any fun q => isNo (resOf q)) = !zipAll ls ws
  | _, _, [], .nil, _ => rfl
  | _, _, [], .cons _ _, _ => rfl
  | _, _, _ :: _, .nil, _ => rfl
  | l :: ls, d :: kd, w :: ws, .cons ⟨k, e, g⟩ hs, hw => by
    subst e
    show (isNo (resOf (.str k, .str w)) || ((kd.zip (ws.map .str)).any fun q => isNo (resOf q))) = !(partOk l w && zipAll ls ws)
    rw [zip_any hs fun x hx => hw x (List.mem_cons_of_mem _ hx), (g w (hw w List.mem_cons_self)).2.2, Bool.not_and]
theorem zip_each {ls : List Str} {kd : List PyData} {ws : List Str} (h : All2 GL ls kd) (hw : ∀ w ∈ ws, w ∈ Wd) : ∀ q ∈ kd.zip (ws.map .str), (∀ s, callF pr 36 45 [.p q.1, .p q.2] s = .ok (.p (resOf q)) s) ∧ isD (resOf q) .none = some (isNo (resOf q)) := by
  rintro ⟨a, b⟩ hq
  obtain ⟨ha, hb⟩ := List.of_mem_zip hq
  obtain ⟨w, hw1, rfl⟩ := List.mem_map.mp hb
  obtain ⟨k, rfl, g⟩ : ∃ k, a = .str k ∧ ∃ l, Good l k := by
    have : ∀ {ls : List Str} {kd : List PyData}, All2 GL ls kd → ∀ a ∈ kd, ∃ k, a = .str k ∧ ∃ l, Good l k := by
      intro ls kd h
      induction h with
      | nil => intro a h; cases h
      | cons h hs ih =>
        intro a ha
        rcases List.mem_cons.mp ha with rfl | ha
        · obtain ⟨k, e, g⟩ := h
          exact ⟨k, e, _, g⟩
        · exact ih a ha
    exact this h a ha
  obtain ⟨l, g⟩ := g
  exact ⟨(g w (hw w hw1)).1, (g w (hw w hw1)).2.1⟩
/-! ### heads -/
def headOk (b0 : Str) : Bool := match headK b0, tbl.find? (fun r => b0 == r.1) with
  | .tuple kd, some r => twin (sgn r.2.1) kd && (r.2.2 == (DD.lookup b0).isSome)
  | .none, none => true
  | _, _ => false
theorem heads_ok : (Wd.all fun b => decide (b = claim) || headOk b) = true := by kernel_rfl
def claimOk (b2 : Str) : Bool := match CC.lookup b2, cls.find? (fun r => b2 == r.1) with
  | some (.tuple kd), some r => twin (sgn r.2) kd && Nat.ble kd.length 8
  | none, none => true
  | _, _ => false
theorem claims_ok : (Wd.all claimOk) = true := by kernel_rfl
theorem tbl_claim : tbl.find? (fun r => claim == r.1) = none := by kernel_rfl
theorem twin_len {ls : List Str} {kd : List PyData} (h : All2 GL ls kd) : kd.length = ls.length := h.length
theorem tup_of {d : PyData} {kd : List PyData} (h : d = .tuple kd) : PyData.tuple kd = d := h.symm
theorem len_app (a b : Str) : (a ++ b).length = a.length + b.length := by
  show (a.cps ++ b.cps).size = _
  rw [Array.size_append]
  rfl
theorem join_len : ∀ {L : List Str}, (∀ x ∈ L, x.length ≤ 200) → (Txt.join sp L).length ≤ 201 * L.length
  | [], _ => Nat.le_refl _
  | [x], hx => by
    rw [join_one]
    have := hx x List.mem_cons_self
    simp only [List.length_cons, List.length_nil]
    omega
  | x :: y :: r, hx => by
    have h1 := hx x List.mem_cons_self
    have h2 := join_len (L := y :: r) fun z hz => hx z (List.mem_cons_of_mem _ hz)
    rw [join_cons, len_app, len_app, show sp.length = 1 from rfl, List.length_cons]
    rw [List.length_cons] at h2 ⊢
    omega
section
variable {b0 : Str} {rest : List Str} (hin : ∀ x ∈ b0 :: rest, x ∈ Wd) (hs : inSorts b0 = false) (ht : (b0 == teach) = false) (hl : rest.length ≤ 900)
include hin
theorem line_len (hl : rest.length ≤ 900) : Nat.ble ((Txt.join sp (b0 :: rest)).length + 2) sizeLine = true := by
  have := join_len (L := b0 :: rest) fun x hx => wd_len x (hin x hx)
  rw [List.length_cons] at this
  exact ble_of (Nat.le_trans (show _ ≤ 201 * 901 + 2 by omega) (by decide))
include hs ht hl
theorem desk : ∃ r, (∀ s, callF pr 37 49 [.p (.str (Txt.join sp (b0 :: rest)))] s = .ok (.p r) s) ∧ DeskR r (due b0 rest).1 (due b0 rest).2 := by
  have hlen := line_len hin hl
  have hrest : ∀ w ∈ rest, w ∈ Wd := fun w hw => hin w (List.mem_cons_of_mem _ hw)
  have hb0 := hin b0 List.mem_cons_self
  cases hc : b0 == claim with
  | false =>
    have hk := kinds_plain (X := rest.map .str) hc
    have ho := List.all_eq_true.mp heads_ok b0 hb0
    rw [decide_eq_false (fun e => by rw [e, beq_self_eq_true] at hc; cases hc), Bool.false_or] at ho
    unfold headOk at ho
    split at ho
    · rename_i kd r e1 e2
      rw [e1] at hk
      rw [due_row e2]
      obtain ⟨h1, h2⟩ := (Bool.and_eq_true _ _).mp ho
      have tw := twin_ok h1
      have hkl : kd.length = r.2.1.length := by rw [twin_len tw, sgn_len]
      by_cases hn : kd.length = rest.length
      · refine ⟨_, parts_full hin hs ht hlen hk hn (Nat.le_trans hl (by decide)) (zip_each tw hrest), ?_⟩
        have e3 : ((rest.length : Int) + 1 == (r.2.1.length : Int) + 1) = true := by
          rw [beq_iff_eq]
          omega
        rw [zip_any tw hrest, e3, Bool.true_and]
        cases zipAll (sgn r.2.1) rest with
        | false => exact .inl ⟨rfl, rfl, rfl⟩
        | true => exact .inr ⟨_, _, rfl, hs, ht, rfl, eq_of_beq h2⟩
      · refine ⟨_, parts_long hin hs ht hlen hk hn, ?_⟩
        have e3 : ((rest.length : Int) + 1 == (r.2.1.length : Int) + 1) = false := by
          rw [beq_eq_false_iff_ne]
          omega
        rw [e3]
        exact .inl ⟨rfl, rfl, rfl⟩
    · rename_i e1 e2
      rw [e1] at hk
      rw [due_other e2 hc]
      exact ⟨_, parts_none hin hs ht hlen hk, .inl ⟨rfl, rfl, rfl⟩⟩
    · cases ho
  | true =>
    have hbc : b0 = claim := eq_of_beq hc
    subst hbc
    have lab : Good (Str.ofString "n") (Str.ofString "label") := gl_good (Str.ofString "n", Str.ofString "label") (by simp [gl])
    have wrd : ∀ w ∈ Wd, (∀ s, callF pr 36 45 [.p (.str (Str.ofString "word")), .p (.str w)] s = .ok (.p (resOf (.str (Str.ofString "word"), .str w))) s) ∧ isD (resOf (.str (Str.ofString "word"), .str w)) .none = some (isNo (resOf (.str (Str.ofString "word"), .str w))) ∧ isNo (resOf (.str (Str.ofString "word"), .str w)) = !(CC.lookup w).isSome := fun w hw => by
      have hc := List.all_eq_true.mp chk_word w hw
      have hr : resOf (.str (Str.ofString "word"), .str w) = match partD (Str.ofString "word") w with | .ok (.p d) _ => d | _ => .none := rfl
      split at hc
      · rename_i d s0 e1
        rw [hr, e1]
        obtain ⟨h1, h2⟩ := (Bool.and_eq_true _ _).mp hc
        exact ⟨fun s => pure_any (F := f45) rfl rfl e1, isD_no h1, eq_of_beq h2⟩
      · cases hc
    match rest, hin, hl, hlen, hrest with
    | [], hin, hl, hlen, hrest =>
      rw [due_short tbl_claim (by simp)]
      exact ⟨_, parts_long hin hs ht hlen (kinds_claim1 (X := []) (by decide)) (by decide), .inl ⟨rfl, rfl, rfl⟩⟩
    | [x], hin, hl, hlen, hrest =>
      rw [due_short tbl_claim (by simp)]
      exact ⟨_, parts_long hin hs ht hlen (kinds_claim1 (X := [.str x]) (Nat.le_refl 1)) (by show 2 ≠ 1; decide), .inl ⟨rfl, rfl, rfl⟩⟩
    | b1 :: b2 :: X, hin, hl, hlen, hrest =>
      have hb1 := hrest b1 (by simp)
      have hb2 := hrest b2 (by simp)
      have hX : ∀ w ∈ X, w ∈ Wd := fun w hw => hrest w (by simp [hw])
      have ho := List.all_eq_true.mp claims_ok b2 hb2
      unfold claimOk at ho
      split at ho
      · rename_i kd r e1 e2
        obtain ⟨h1, h2⟩ := (Bool.and_eq_true _ _).mp ho
        have tw := twin_ok h1
        have hk := kinds_claim (b1 := b1) (X := X.map .str) e1 (Nat.le_trans (Nat.le_of_ble_eq_true h2) (by decide))
        have hkl : kd.length = r.2.length := by rw [twin_len tw, sgn_len]
        rw [due_claim tbl_claim (beq_self_eq_true _) e2]
        unfold dueK
        by_cases hn : (dcl ++ kd).length = (b1 :: b2 :: X).length
        · have hn' := hn
          rw [List.length_append, List.length_cons, List.length_cons, show dcl.length = 2 from rfl] at hn'
          refine ⟨_, parts_full (res := resOf) hin hs ht hlen hk hn (Nat.le_trans hl (by decide)) (fun q hq => ?_), ?_⟩
          · rcases List.mem_cons.mp (show q ∈ (PyData.str (Str.ofString "label"), PyData.str b1) :: (.str (Str.ofString "word"), .str b2) :: kd.zip (X.map .str) from hq) with rfl | hq
            · exact ⟨(lab b1 hb1).1, (lab b1 hb1).2.1⟩
            rcases List.mem_cons.mp hq with rfl | hq
            · exact ⟨(wrd b2 hb2).1, (wrd b2 hb2).2.1⟩
            · exact zip_each tw hX q hq
          · have ea : (((dcl ++ kd).zip ((b1 :: b2 :: X).map .str)).any fun q => isNo (resOf q)) = !(partOk (Str.ofString "n") b1 && zipAll (sgn r.2) X) := by
              show (isNo (resOf (.str (Str.ofString "label"), .str b1)) || (isNo (resOf (.str (Str.ofString "word"), .str b2)) || ((kd.zip (X.map .str)).any fun q => isNo (resOf q)))) = _
              rw [zip_any tw hX, (lab b1 hb1).2.2, (wrd b2 hb2).2.2, e1, Bool.not_and]
              rfl
            have e3 : ((X.length : Int) + 1 + 1 + 1 == (r.2.length : Int) + 3) = true := by
              rw [beq_iff_eq]
              omega
            rw [ea, e3, Bool.true_and]
            cases partOk (Str.ofString "n") b1 && zipAll (sgn r.2) X with
            | false => exact .inl ⟨rfl, rfl, rfl⟩
            | true => exact .inr ⟨_, _, rfl, hs, ht, rfl, by rw [DD_claim]; rfl⟩
        · refine ⟨_, parts_long hin hs ht hlen hk hn, ?_⟩
          rw [List.length_append, List.length_cons, List.length_cons, show dcl.length = 2 from rfl] at hn
          have e3 : ((X.length : Int) + 1 + 1 + 1 == (r.2.length : Int) + 3) = false := by
            rw [beq_eq_false_iff_ne]
            omega
          rw [e3, Bool.false_and, Bool.false_and]
          exact .inl ⟨rfl, rfl, rfl⟩
      · rename_i e1 e2
        have hk := kinds_claim0 (b1 := b1) (X := X.map .str) e1
        rw [due_noclaim tbl_claim (beq_self_eq_true _) e2]
        cases X with
        | nil =>
          refine ⟨_, parts_full (res := resOf) hin hs ht hlen hk rfl (by show 2 ≤ 1000; decide) (fun q hq => ?_), ?_⟩
          · rcases List.mem_cons.mp (show q ∈ [(PyData.str (Str.ofString "label"), PyData.str b1), (.str (Str.ofString "word"), .str b2)] from hq) with rfl | hq
            · exact ⟨(lab b1 hb1).1, (lab b1 hb1).2.1⟩
            rw [List.mem_singleton.mp hq]
            exact ⟨(wrd b2 hb2).1, (wrd b2 hb2).2.1⟩
          · have ea : ((dcl.zip ([b1, b2].map .str)).any fun q => isNo (resOf q)) = true := by
              show (isNo (resOf (.str (Str.ofString "label"), .str b1)) || (isNo (resOf (.str (Str.ofString "word"), .str b2)) || false)) = _
              rw [(wrd b2 hb2).2.2, e1]
              simp
            rw [ea]
            exact .inl ⟨rfl, rfl, rfl⟩
        | cons x X => exact ⟨_, parts_long hin hs ht hlen hk (by show 2 ≠ _; simp only [List.length_cons]; omega), .inl ⟨rfl, rfl, rfl⟩⟩
      · cases ho
end
end K95
set_option linter.all false
set_option autoImplicit false
set_option maxRecDepth 100000
set_option maxHeartbeats 4000000
namespace K95
open PySem Sh
/-! ### what the words of a row are due -/
theorem tbl_find : ∀ r ∈ tbl, tbl.find? (fun q => r.1 == q.1) = some r := fun r hr => by
  have h : (tbl.all fun r => decide (tbl.find? (fun q => r.1 == q.1) = some r)) = true := by kernel_rfl
  exact of_decide_eq_true (List.all_eq_true.mp h r hr)
theorem cls_find : ∀ r ∈ cls, cls.find? (fun q => r.1 == q.1) = some r := fun r hr => by
  have h : (cls.all fun r => decide (cls.find? (fun q => r.1 == q.1) = some r)) = true := by kernel_rfl
  exact of_decide_eq_true (List.all_eq_true.mp h r hr)
theorem part_ok {k w : Str} (h : PartOf k w) : partOk k w = true := by
  have hk : (menus.all fun m => m.2.all fun w => partOk m.1 w) = true := by kernel_rfl
  obtain ⟨m, hm, hw⟩ := h
  exact List.all_eq_true.mp (List.all_eq_true.mp hk (k, m) hm) w hw
theorem zip_ok : ∀ {ls ws : List Str}, All2 PartOf ls ws → zipAll ls ws = true
  | _, _, .nil => rfl
  | _, _, .cons h hs => by
    show (partOk _ _ && zipAll _ _) = true
    rw [part_ok h, zip_ok hs]
    rfl
theorem words_due {ws : List Str} (h : Words ws) : ∃ w0 rest, ws = w0 :: rest ∧ (due w0 rest).1 = true := by
  rcases h with ⟨r, hr, ps, rfl, a2⟩ | ⟨r, hr, p, ps, rfl, hp, a2⟩
  · refine ⟨_, _, rfl, ?_⟩
    rw [due_row (tbl_find r hr)]
    have hl := a2.length
    rw [sgn_len] at hl
    show ((ps.length : Int) + 1 == (r.2.1.length : Int) + 1 && zipAll (sgn r.2.1) ps) = true
    rw [zip_ok a2, hl]
    simp
  · refine ⟨_, _, rfl, ?_⟩
    rw [due_claim (r := r) (show tbl.find? (fun q => Str.ofString "claim" == q.1) = none from tbl_claim) (beq_self_eq_true _) (cls_find r hr)]
    have hl := a2.length
    rw [sgn_len] at hl
    show ((((ps.length : Int) + 1 + 1 + 1 == (r.2.length : Int) + 3) && partOk (Str.ofString "n") p) && zipAll (sgn r.2) ps) = true
    rw [zip_ok a2, part_ok hp, hl]
    simp
    omega
theorem heads_not {w : Str} (h : w ∈ heads) : inSorts w = false ∧ (w == teach) = false := by
  have hk : (heads.all fun w => !inSorts w && !(w == teach)) = true := by kernel_rfl
  have := List.all_eq_true.mp hk w h
  obtain ⟨h1, h2⟩ := (Bool.and_eq_true _ _).mp this
  exact ⟨by rw [Bool.not_eq_true'] at h1; exact h1, by rw [Bool.not_eq_true'] at h2; exact h2⟩
/-! ### written things -/
def wrt : List (Str × Bool) := [("plant p (plant 1 (((0 1) (1 1))) ((0 0 0 (1 1) ((0 1) (0 1)))) () (()))", true), ("task t (24 (((0 1) (1 1)) -))", true), ("known k (0 5 ((-1 2) (1 2)))", true), ("target g (- ((1 3) (1 2)))", true), ("orders o (orders () 11)", true), ("orders o (orders (((least (1 2)) 0)) 1)", true), ("log l (log 0 ((0 1) (1 1)) ((made 0) (read 1 0 -7)))", true),
  ("plant p (plant 1 (((0 1) (1 1))) ((0 0 0 (1 1) ((0 1) (0 1)))) ())", false), ("task t (25 (-))", false), ("known k (0 6 ((-1 2) (1 2)))", false), ("known k (0 5 ((1 2) (-1 2)))", false), ("target g ()", false), ("orders o (orders () 12)", false), ("log l (log 0 ((0 1) (1 1)) ((read 1 0 0)))", false), ("known (0 0 ((0 1) (1 1)))", false), ("known K (0 0 ((0 1) (1 1)))", false), ("known k  (0 0 ((0 1) (1 1)))", false),
  ("known k (0 0 ((0 1) (1 1))) ", false), ("teach o p if most 7 do 0; else do 1", true), ("teach o p ", true), ("teach o p  ; ", true), ("teach o p", false), ("teach o P else do 1", false), ("teach o p else do 1\n", false), ("teach", false), ("known", false), ("", false), (" ", false)].map fun q => (Str.ofString q.1, q.2)
def wD (q : Str × Bool) : PyData := .list [.str q.1, .bool q.2]
theorem wrt_runs : (wrt.all fun q => decide (boolOf (callF pr 39 69 [.p (.str q.1), .p (.list [.bool q.2, .bool q.2])] []) = some true)) = true := by kernel_rfl
theorem wrt_ev {q : Str × Bool} (h : q ∈ wrt) (s : Cells) : callF pr 39 69 [.p (.str q.1), .p (.list [.bool q.2, .bool q.2])] s = .ok (.p (.bool true)) s :=
  run_bool (F := f69) rfl rfl (of_decide_eq_true (List.all_eq_true.mp wrt_runs q h)) s
def r68 : BL := .cons (.ret (.call 54 (.cons (.var 0) (.cons (.var 1) .nil)))) .nil
theorem written_cut : f68.body = appB (initB f68.body) r68 := by kernel_rfl
theorem written_ev (d n : Nat) (s : Cells) : evB (pgOf pr (d + 2)) (initB f68.body) [some (.ref n), none] s = .ok (.nx [some (.ref n), some (.p (.list (wrt.map wD)))]) s := by kernel_rfl
theorem written {d n : Nat} {s : Cells} (h : PotAt n s) : Okk (callF pr (d + 3) 68 [.ref n] s) fun v s' => PotAt n s' ∧ ∃ q ∈ wrt, v = .p (wD q) := by
  refine callN (F := f68) rfl rfl rfl rfl ?_
  rw [written_cut]
  refine app_ev (written_ev d n s) ?_
  refine wBcons <| wRet <| wCall <| wCons <| wVar rfl <| wCons <| wVar rfl <| wNil ?_
  refine (pick h (by rw [List.length_map]; decide) (by rw [List.length_map]; decide)).mono fun v s' ⟨hp, x, hx, e⟩ => ?_
  obtain ⟨y, hy, rfl⟩ := List.mem_map.mp hx
  exact ⟨hp, y, hy, e⟩
/-! ### names -/
def odd4 : List Str := S ["abcdefgh", "abcdefg89", "9a", "a_"]
def nameB (w : Str) : Bool := (boolOf (callF pr 39 57 [.p (.str w)] [])).getD false
theorem names_run : ((odds ++ menuN ++ odd4).all fun w => decide (boolOf (callF pr 39 40 [.p (.str w)] []) = some (nameB w)) && decide (boolOf (callF pr 39 57 [.p (.str w)] []) = some (nameB w))) = true := by kernel_rfl
theorem names_ev {w : Str} (h : w ∈ odds ++ menuN ++ odd4) (s : Cells) : callF pr 39 40 [.p (.str w)] s = .ok (.p (.bool (nameB w))) s ∧ callF pr 39 57 [.p (.str w)] s = .ok (.p (.bool (nameB w))) s := by
  obtain ⟨h1, h2⟩ := (Bool.and_eq_true _ _).mp (List.all_eq_true.mp names_run w h)
  exact ⟨run_bool (F := f40) rfl rfl (of_decide_eq_true h1) s, run_bool (F := f57) rfl rfl (of_decide_eq_true h2) s⟩
/-! ### the pot -/
theorem pot {ns : List Int} {k : Nat} {s : Cells} (hk : k ≤ 2) (d : Nat) : Okk (callF pr (d + 1) 52 [.scr ns, .p (.int k)] s) fun v s' => ∃ n, v = .ref n ∧ PotAt n s' := by
  refine callN (F := f52) rfl rfl rfl rfl ?_
  have rest : ∀ c : Int, Okk (evB (pgOf pr d) (match f52.body with | .cons _ b => b | b => b) [some (.scr ns), some (.p (.int k)), some (.p (.int c))] s) (retQ fun v s' => ∃ n, v = .ref n ∧ PotAt n s') := fun c => by
    refine wBcons <| wRet <| wCell <| wCons <| wBlt <| wCons <| wInt <| wCons <| wBin <| wVar rfl <| wBin <| wInt <| wInt ⟨.int 1000000000000000000, rfl, _, rfl, wNil <| Okk.eq (a := .p (.int (if c - 1000000000000000000 > 0 then c - 1000000000000000000 else 0))) (s := s) rfl ?_⟩
    refine wCons <| wBin <| wBin <| wBlt <| wCons <| wBin <| wBin <| wBin <| wBin <| wBlt <| wCons <| wVar rfl <| wNil <| Okk.eq (a := .p (.int c)) (s := s) rfl ?_
    refine wInt ⟨_, mod_ok 2147483549 (by decide), wInt ⟨_, mul_ok (.inr rfl), wBin <| wInt <| wVar rfl ⟨_, mul_ok (.inl rfl), _, rfl, wInt ⟨_, rfl, wNil <| Okk.eq rfl <| wInt ⟨_, mod_ok 2147483563 (by decide), wInt ⟨_, rfl, wNil ?_⟩⟩⟩⟩⟩⟩
    refine ⟨s.length, rfl, _, _, List.getElem?_concat_length, ?_, ?_⟩
    · have := Int.emod_nonneg (c % 2147483549 * 41641 + 7577 * (k : Int) + 71) (show (2147483563 : Int) ≠ 0 by decide)
      omega
    · have := Int.emod_lt_of_pos (c % 2147483549 * 41641 + 7577 * (k : Int) + 71) (show (0 : Int) < 2147483563 by decide)
      omega
  refine wBcons <| wAsg <| wIfe <| wCmp <| wVar rfl <| wBlt <| wCons <| wVar rfl <| wNil <| Okk.eq (a := .p (.int ns.length)) (s := s) ?_ ⟨decide ((k : Int) < ns.length), rfl, _, truthB, ?_⟩
  · show (match seqOf s (.scr ns) with | some xs => O.ok (Vl.p (.int xs.length)) s | none => .bad) = _
    show O.ok (Vl.p (.int ((ns.map PyData.int).map Vl.p).length)) s = _
    rw [List.length_map, List.length_map]
  cases hd : decide ((k : Int) < ns.length) with
  | true =>
    have hlt : k < ns.length := by
      have := of_decide_eq_true hd
      omega
    refine wBlt <| wCons <| wIx <| wVar rfl <| wVar rfl ⟨.p (.int ns[k]), ?_, wNil <| Okk.eq (a := .p (.int (if ns[k] < 0 then -ns[k] else ns[k]))) (s := s) rfl <| wNm (rest _)⟩
    show L2.atI ((ns.map PyData.int).map Vl.p) (k : Int) = _
    unfold L2.atI L2.ixN
    rw [if_pos (by omega), if_pos (by rw [List.length_map, List.length_map]; omega)]
    show ((ns.map PyData.int).map Vl.p)[(k : Int).toNat]? = _
    rw [Int.toNat_natCast, List.getElem?_map, List.getElem?_map, List.getElem?_eq_getElem hlt]
    rfl
  | false =>
    have hsum : ∃ t : Int, Okk (bltV (pgOf pr d) .sum [.p (.list (cutL (ns.map .int) none (some 1)))] s) fun v s' => v = .p (.int t) ∧ s' = s := by
      have hi : ∀ xs : List Int, intsOf (xs.map .int) = some xs := by
        intro xs
        induction xs with
        | nil => rfl
        | cons x r ih =>
          show (intsOf (r.map .int)).map (x :: ·) = _
          rw [ih]
          rfl
      have hc : cutL (ns.map PyData.int) none (some 1) = (cutL ns none (some 1)).map .int := by
        unfold cutL
        rw [List.length_map, List.map_take, List.map_drop]
      refine ⟨(cutL ns none (some 1)).sum, _, s, ?_, rfl, rfl⟩
      show (match intsOf (cutL (ns.map PyData.int) none (some 1)) with | some ns => O.ok (Vl.p (.int ns.sum)) s | none => .bad) = _
      rw [hc, hi]
    obtain ⟨t, hsum⟩ := hsum
    refine wBin <| wBin <| wBin <| wInt <| wVar rfl ⟨_, mul_ok (.inl rfl), wInt ⟨_, rfl, wBin <| wBlt <| wCons <| wBlt <| wCons <| wSl <| wVar rfl <| wNon <| wInt ⟨_, _, _, rfl, rfl, rfl, wNil <| hsum.mono fun v s' ⟨e, e2⟩ => ?_⟩⟩⟩
    subst e e2
    exact wNil <| Okk.eq rfl <| wInt ⟨_, mod_ok 1000003 (by decide), _, rfl, wNm (rest _)⟩
end K95
set_option linter.all false
set_option autoImplicit false
set_option maxRecDepth 100000
set_option maxHeartbeats 8000000
namespace K95
open PySem Sh
theorem line_asked {b0 : Str} {rest : List Str} (hin : ∀ x ∈ b0 :: rest, x ∈ Wd) (hs : inSorts b0 = false) (ht : (b0 == teach) = false) (hl : rest.length ≤ 900) (s : Cells) :
    callF pr 39 69 [.p (.str (Txt.join sp (b0 :: rest))), .p (.list [.bool (due b0 rest).1, .bool (due b0 rest).2])] s = .ok (.p (.bool true)) s := by
  obtain ⟨r, h1, h2⟩ := desk hin hs ht hl
  exact asked h1 h2 s
theorem join_ev {P : Pg} {B : List Str} {s : Cells} (h : ∀ x ∈ B, x.length ≤ 200) (hl : B.length ≤ 1000) : mthV P .join (.p (.str sp)) [.p (.list (B.map .str))] s = .ok (.p (.str (Txt.join sp B))) s := by
  show (match strsOf (B.map PyData.str) with | some ys => (if Nat.ble ((ys.map fun x => Str.length x).sum + ys.length * sp.length) 16777216 then O.ok (Vl.p (.str (Txt.join sp ys))) s else .bad) | none => .bad) = _
  rw [strsOf_map]
  show (if Nat.ble ((B.map fun x => Str.length x).sum + B.length * 1) 16777216 = true then O.ok (Vl.p (.str (Txt.join sp B))) s else .bad) = _
  have hk : ∀ L : List Str, (∀ x ∈ L, x.length ≤ 200) → (L.map fun x => Str.length x).sum ≤ 200 * L.length := by
    intro L
    induction L with
    | nil => intro _; exact Nat.le_refl _
    | cons x r ih =>
      intro hx
      have h1 := hx x List.mem_cons_self
      have h2 := ih fun z hz => hx z (List.mem_cons_of_mem _ hz)
      rw [List.map_cons, List.sum_cons, List.length_cons]
      omega
  have := hk B h
  rw [if_pos (ble_of (by omega))]
/-- the slots within a turn -/
def It (V : Vl) (n : Nat) (sl : Sl) (s : Cells) : Prop := (∃ k a b c d e f g, sl = [some V, k, some (.ref n), a, b, c, d, e, f, g]) ∧ PotAt n s
theorem nis_tt {P : Pg} {s : Cells} : cmpV P .nis (.p (.bool true)) (.p (.bool true)) s = some false := rfl
theorem ixL0 {P : Pg} {x : PyData} {Y : List PyData} {s : Cells} : ixV P (.p (.list (x :: Y))) (.p (.int 0)) s = some (.p x) := ix0
def seven : List Str := S ["plant", "task", "known", "target", "orders", "log", "teach"]
theorem nin_ev {P : Pg} {b : Str} {s : Cells} : cmpV P .nin (.p (.str b)) (.p (.tuple (seven.map .str))) s = some (!(inSorts b || (b == teach))) := by
  show some (!((seven.map PyData.str).any fun z => PyData.eqv z (.str b))) = _
  have e : ((seven.map PyData.str).any fun z => PyData.eqv z (.str b)) = (inSorts b || (b == teach)) := by
    unfold inSorts seven sortsL S
    simp only [List.map_cons, List.map_nil, List.any_cons, List.any_nil, Bool.or_false, Bool.or_assoc]
    have : PyData.eqv (.str (Str.ofString "teach")) (.str b) = (b == teach) := by
      show (Str.ofString "teach" == b) = (b == teach)
      exact BEq.comm
    rw [this]
  rw [e]
def b70 : BL := match f70.body with | .cons (.for _ _ (.cons _ (.cons (.for _ _ b) _))) _ => b | b => b
def t70 : BL := match b70 with | .cons _ (.cons _ (.cons _ (.cons _ b))) => b | b => b
theorem repr_bb {P : Pg} {b : Bool} {s : Cells} : bltV P .repr [.p (.list [.bool b, .bool b])] s = .ok (.p (.str (PyData.list [.bool b, .bool b]).shown)) s := by
  cases b <;> kernel_rfl
theorem tail70 {V : Vl} {n : Nat} {k a b c d e f g : Option Vl} {s : Cells} (hp : PotAt n s) : Okk (evB (pgOf pr 39) t70 [some V, k, some (.ref n), a, b, c, d, e, f, g] s) fun o s => ∃ sl', o = .nx sl' ∧ It V n sl' s := by
  refine wBcons <| wAsg <| wCallR <| wCons <| wVar rfl <| wNil ?_
  refine (written (d := 36) hp).mono fun v s3 ⟨hp3, q, hq, e3⟩ => ?_
  subst e3
  refine wTp rfl <| wTcons <| wNm <| wTcons <| wNm <| wTnil ?_
  refine wBcons <| wIfs <| wNot <| wCallR <| wCons <| wVar rfl <| wCons <| wLst (wCons <| wVar rfl <| wCons <| wVar rfl <| wNil ⟨_, rfl, wNil <| Okk.eq (wrt_ev hq _) ⟨true, truthB, false, truthB, wBnil ?_⟩⟩)
  refine wBcons <| wAsg <| wCallR <| wCons <| wVar rfl <| wCons <| wLst <| wCons <| wCallR <| wCons <| wVar rfl <| wNil ?_
  refine (odd (d := 36) hp3).mono fun v s4 ⟨hp4, o, ho, e4⟩ => ?_
  subst e4
  refine wCons <| wCallR <| wCons <| wVar rfl <| wCons <| wStr <| wNil ?_
  refine (part (d := 36) hp4 (k := Str.ofString "n") (m := menuN) (by simp)).mono fun v s5 ⟨hp5, p, hpn, e5⟩ => ?_
  subst e5
  refine wCons <| wStr <| wCons <| wStr <| wCons <| wStr <| wCons <| wStr <| wNil ⟨[o, p, Str.ofString "abcdefgh", Str.ofString "abcdefg89", Str.ofString "9a", Str.ofString "a_"].map .str, rfl, wNil ?_⟩
  refine (pick (d := 37) (xs := [o, p, Str.ofString "abcdefgh", Str.ofString "abcdefg89", Str.ofString "9a", Str.ofString "a_"].map .str) hp5 (Nat.le_of_ble_eq_true rfl) (Nat.le_of_ble_eq_true rfl)).mono fun v s6 ⟨hp6, x, hx, e6⟩ => ?_
  subst e6
  obtain ⟨w, hw, rfl⟩ := List.mem_map.mp hx
  have hin : w ∈ odds ++ menuN ++ odd4 := by
    rcases List.mem_cons.mp hw with rfl | hw
    · exact List.mem_append_left _ (List.mem_append_left _ ho)
    rcases List.mem_cons.mp hw with rfl | hw
    · exact List.mem_append_left _ (List.mem_append_right _ hpn)
    · exact List.mem_append_right _ hw
  have h40 := fun s => (names_ev hin s).1
  have h57 := fun s => (names_ev hin s).2
  generalize nameB w = nb at h40 h57
  refine wNm <| wBcons <| wIfs <| wCmp <| wBlt <| wCons <| wLst <| wCons <| wCallR <| wCons <| wVar rfl <| wNil <| Okk.eq (h40 _) <| wCons <| wCallKR <| wVar rfl <| Okk.eq (h40 _) <| wNil ⟨_, rfl, wNil <| Okk.eq repr_bb ?_⟩
  refine wBlt <| wCons <| wBin <| wLst <| wCons <| wCallR <| wCons <| wVar rfl <| wNil <| Okk.eq (h57 _) <| wNil ⟨_, rfl, wInt ⟨.list [.bool nb, .bool nb], rfl, wNil <| Okk.eq repr_bb ⟨false, ?_, false, truthB, wBnil (wBnil ⟨_, rfl, ⟨_, _, _, _, _, _, _, _, rfl⟩, hp6⟩)⟩⟩⟩
  cases nb <;> kernel_rfl
theorem turn70 {V : Vl} {n : Nat} {x : Vl} {sl : Sl} {s : Cells} (hi : It V n sl s) :
    Okk (forTurn (pgOf pr 39) (.nm 3) b70 x sl s) fun o s => ∃ sl', o = .nx sl' ∧ It V n sl' s := by
  obtain ⟨⟨k, a, b, c, d, e, f, g, rfl⟩, hp⟩ := hi
  refine Okk.bind <| wNm ?_
  refine wBcons <| wAsg <| wCallR <| wCons <| wVar rfl <| wNil ?_
  refine (words (d := 35) hp).mono fun v s1 ⟨hp1, ws, e1, hw⟩ => ?_
  subst e1
  obtain ⟨w0, rest, rfl, hh, hin, hrl⟩ := words_in hw
  have hdue : (due w0 rest).1 = true := by
    obtain ⟨_, _, e, h⟩ := words_due hw
    cases e
    exact h
  obtain ⟨hs, ht⟩ := heads_not hh
  have hdv := due_ev (b0 := w0) (rest := rest) hin (Nat.le_trans hrl (by decide))
  have hask := line_asked hin hs ht (Nat.le_trans hrl (by decide))
  refine wNm ?_
  refine wBcons <| wIfs <| wBool <| wCmp <| wIx <| wCallR <| wCons <| wVar rfl <| wNil <| Okk.eq (hdv _) <| wInt ⟨_, ixL0, wBl ⟨(!(due w0 rest).1), ?_, _, truthB, ?_⟩⟩
  · rw [hdue]; rfl
  rw [hdue]
  refine .inl ⟨rfl, wOne <| wNot <| wCallR <| wCons <| wMth <| wStr ⟨rfl, wCons <| wVar rfl <| wNil <| Okk.eq (join_ev (fun x hx => wd_len x (hin x hx)) (by rw [List.length_cons]; omega)) <| wCons <| wCallR <| wCons <| wVar rfl <| wNil <| Okk.eq (hdv _) <| wNil <| Okk.eq (hask _) ⟨true, truthB, false, truthB, wBnil ?_⟩⟩⟩
  -- the bent line
  refine wBcons <| wAsg <| wMth <| wMth <| wStr ⟨rfl, wCons <| wCallR <| wCons <| wVar rfl <| wCons <| wVar rfl <| wNil ?_⟩
  refine (bent (d := 35) hp1 (p := W0) (w0 := w0) (rest := rest) (fun w hw => .inl (hin w hw)) odds_in (.inl (memW (ys := [Str.ofString ""]) (by kernel_rfl) _ (by simp))) (.inl (uppers_in _ (List.mem_map.mpr ⟨w0, hh, rfl⟩))) hrl (Nat.le_trans (wd_len w0 (hin w0 List.mem_cons_self)) (by decide))).mono fun v s2 ⟨hp2, ds, e2, hA, hdl⟩ => ?_
  subst e2
  obtain ⟨L, rfl, hL⟩ := hA.strs
  rw [List.length_map] at hdl
  have w0len : ∀ x ∈ L, x.length ≤ 200 := fun x hx => (hL x hx).elim (wd_len x) fun e => by rw [e]; decide
  obtain ⟨c1, c2, c3, c4, c5⟩ := cutW_ok hL
  refine wNil <| Okk.eq (join_ev w0len (by omega)) ⟨rfl, wCons <| wStr <| wNil <| Okk.eq (a := .p (.list ((cutW L).map .str))) (s := s2) ?_ <| wNm ?_⟩
  · have := join_len w0len
    show (if !(sp.length == 0) && Nat.ble ((Txt.join sp L).length + 2) sizeLine then O.ok (Vl.p (.list ((Txt.split (Txt.join sp L) sp).map .str))) s2 else .bad) = _
    rw [c1, ble_of (Nat.le_trans (show _ ≤ 201 * 43 + 2 by omega) (by decide))]
    rfl
  obtain ⟨b0, br, hb⟩ : ∃ b0 br, cutW L = b0 :: br := by
    cases h : cutW L with
    | nil => exact absurd h c3
    | cons a b => exact ⟨a, b, rfl⟩
  rw [hb] at c4 c5 ⊢
  have hbl : br.length ≤ 900 := by
    rw [List.length_cons] at c5
    omega
  have hdv2 := due_ev (b0 := b0) (rest := br) c4 hbl
  refine wBcons <| wIfs <| wCmp <| wIx <| wVar rfl <| wInt ⟨_, ixL (k := 0) rfl, wTup <| wCons <| wStr <| wCons <| wStr <| wCons <| wStr <| wCons <| wStr <| wCons <| wStr <| wCons <| wStr <| wCons <| wStr <| wNil ⟨seven.map .str, rfl, _, nin_ev, _, truthB, ?_⟩⟩
  cases hd : inSorts b0 || (b0 == teach) with
  | true => exact wBnil (tail70 hp2)
  | false =>
    obtain ⟨hs2, ht2⟩ := (Bool.or_eq_false_iff).mp hd
    have hask2 := line_asked c4 hs2 ht2 hbl
    have w0len2 : ∀ x ∈ b0 :: br, x.length ≤ 200 := fun x hx => wd_len x (c4 x hx)
    refine wBcons <| wIfs <| wNot <| wCallR <| wCons <| wMth <| wStr ⟨rfl, wCons <| wVar rfl <| wNil <| Okk.eq (join_ev w0len2 (by rw [List.length_cons]; omega)) <| wCons <| wCallR <| wCons <| wVar rfl <| wNil <| Okk.eq (hdv2 _) <| wNil <| Okk.eq (hask2 _) ⟨true, truthB, false, truthB, wBnil (wBnil (tail70 hp2))⟩⟩
theorem length_scr {P : Pg} {ns : List Int} {s : Cells} : bltV P .len [.scr ns] s = .ok (.p (.int ns.length)) s := by
  show (match seqOf s (.scr ns) with | some xs => O.ok (Vl.p (.int xs.length)) s | none => .bad) = _
  show O.ok (Vl.p (.int ((ns.map PyData.int).map Vl.p).length)) s = _
  rw [List.length_map, List.length_map]
theorem rng_mem {lo : Int} {n : Nat} {x : Vl} (h : x ∈ rngItems lo n) : ∃ k : Nat, k < n ∧ x = .p (.int (lo + (k : Nat))) := by
  obtain ⟨k, hk, rfl⟩ := List.mem_map.mp h
  exact ⟨k, List.mem_range.mp hk, rfl⟩
def Io (V : Vl) (sl : Sl) (s : Cells) : Prop := ∃ k a b c d e f g h, sl = [some V, k, a, b, c, d, e, f, g, h]
theorem end70 {V : Vl} {k a b c d e f g h : Option Vl} {s : Cells} : evB (pgOf pr 39) (match f70.body with | .cons _ b => b | b => b) [some V, k, a, b, c, d, e, f, g, h] s = .ok (.rt (.p (.bool true))) s := by kernel_rfl
theorem math (ns : List Int) : callF pr 40 70 [.scr ns] [] = .ok (.p (.bool true)) [] := by
  refine callE (F := f70) rfl rfl rfl rfl rfl ?_
  refine wBcons <| wFor <| wRng1 <| wBlt <| wCons <| wInt <| wCons <| wBlt <| wCons <| wInt <| wCons <| wBlt <| wCons <| wVar rfl <| wNil <| Okk.eq length_scr <| wNil <| Okk.eq rfl <| wNil <| Okk.eq rfl ⟨_, rfl, ?_, ?_⟩
  · unfold inRng
    simp only [Bool.and_eq_true, decide_eq_true_eq]
    split <;> split <;> omega
  refine (forLoop_inv (Io (.scr ns)) (fun x hx sl s hi => ?_) ⟨_, _, _, _, _, _, _, _, _, rfl⟩).mono fun o s ⟨sl, e, hi⟩ => ?_
  · obtain ⟨k, hk, rfl⟩ := rng_mem hx
    obtain ⟨k', a, b, c, d, e, f, g, h, rfl⟩ := hi
    have hk2 : k ≤ 2 := by
      revert hk
      split <;> split <;> omega
    rw [Int.zero_add]
    refine Okk.bind <| wNm <| wBcons <| wAsg <| wCallR <| wCons <| wVar rfl <| wCons <| wVar rfl <| wNil <| (pot hk2 38).mono fun v s1 ⟨n, e, hp⟩ => ?_
    subst e
    refine wNm <| wBcons <| wFor <| wRng1 <| wInt ⟨8, rfl, rfl, ?_⟩
    refine (forLoop_inv (It (.scr ns) n) (fun x hx sl s hi => turn70 hi) ⟨⟨_, _, _, _, _, _, _, _, rfl⟩, hp⟩).mono fun o s ⟨sl, e, hi⟩ => ?_
    subst e
    obtain ⟨⟨_, _, _, _, _, _, _, _, rfl⟩, _⟩ := hi
    exact wBnil ⟨_, rfl, _, _, _, _, _, _, _, _, _, rfl⟩
  · subst e
    obtain ⟨_, _, _, _, _, _, _, _, _, rfl⟩ := hi
    exact Okk.eq end70 rfl
end K95
set_option Elab.async false
set_option linter.all false
set_option maxRecDepth 100000
set_option maxHeartbeats 0
namespace K95
open PySem PySem.W PySem.Calls PyProof.Rows Sh
noncomputable section
abbrev R : OpenRow := OpenLaw.row PySem.Challenge.rw_surelyheld_k95_any_string_as_a_command
def isLaw : Stmt → Bool
  | .FunctionDef name _ _ _ _ _ _ _ _ _ => decide (name = Str.ofString "law")
  | _ => false
def qv : Program := { R.prog with main := { R.prog.main with body := R.prog.main.body.filter isLaw } }
def loose : List Str := (R.prog.main.scope.names.map (·.1)).filter fun x => !decide (x = Str.ofString "law")
abbrev whole (w : World) := HandSHeadRun.wholeF (fun p => HandSHeadRun.stepQ (HandSHeadRun.denQ HandSHeadRun.tabQ) p w) HandSHeadRun.fenceQ 6000 R.prog
def looks (w : World) : Prop := (whole w).map (fun x => (HandSHeadRun.looksF R.prog x.1.heap x.2.abs, HandSHeadRun.seenQ qv loose (importedModules R.prog.main.body) (fun s => xlAt qv [] s && recOk R.toRowW.records s) x.2.abs)) = some (true, openGood qv loose)
def obs (w : World) : Prop := (whole w).map (fun x => obsSG 3 md ds (HandSHeadRun.getT x.2)) = some ((hookS 3 md ds).val w)
theorem looks1 (w : World) : looks (w.withFollow "special-get-raises" false) := by
  show _ = _
  kernel_rfl
theorem looks2 (w : World) : looks (w.withFollow "special-get-raises" true) := by
  show _ = _
  kernel_rfl
theorem obs1 (w : World) : obs (w.withFollow "special-get-raises" false) := by
  show _ = _
  kernel_rfl
theorem obs2 (w : World) : obs (w.withFollow "special-get-raises" true) := by
  show _ = _
  kernel_rfl
theorem looks0 (w : World) : looks w := byRow2 "special-get-raises" (P := looks) looks1 looks2 w
theorem obs0 (w : World) : obs w := byRow2 "special-get-raises" (P := obs) obs1 obs2 w
theorem run (w : World) : HandSHeadRun.RunEqI R qv (hookS 3 md ds) (fun x => obsSG 3 md ds (HandSHeadRun.getT x)) 6000 loose w := by
  obtain ⟨x, e1, e2⟩ := Option.map_eq_some_iff.mp (looks0 w)
  obtain ⟨y, e3, e4⟩ := Option.map_eq_some_iff.mp (obs0 w)
  rw [e1] at e3
  cases e3
  obtain ⟨e5, e6⟩ := Prod.mk.inj e2
  show (whole w).map _ = _
  rw [e1]
  exact congrArg some (Prod.ext e5 (Prod.ext e6 e4))
theorem names70 : pr.names[70]? = some (Str.ofString "law", [Str.ofString "script"]) := rfl
theorem allOk : allB pr Ns ds 0 = true := by kernel_rfl
theorem promise (w : World) (mg : Str → Option Value) (fa : Addr) (h : Heap) (Y : (hookS 3 md ds).says w h) (hns : h.Ns mainGlobals mg) (hm : mg (Str.ofString "law") = some (.ref fa)) :
    ∃ (K : Frag) (fd : FuncData) (sp : L2.Sp), K.In h ∧ (∀ (s : Shared) (u : Value), BindsTo s fd ⟨[u], []⟩ [(Str.ofString "script", u)]) ∧
      (∀ (H : L2.Hp) (a : Addr) (ns : List Int), ns.length ≤ 63 → (∀ i ∈ ns, Builtin.Int.intBits i ≤ 1048576) → L2.Only H → SqF K H a (ns.map L2.V.int) → sp [.ref a] H (fun v _ => v = .bl true) fun _ _ _ => False) ∧
      ∀ base : Heap, K.In base → base.Ns mainGlobals mg → FnG R.prog w K mg base L2.CX0 40 fa fd [Str.ofString "script"] sp := by
  obtain ⟨K, hK, hm1, hs⟩ := Y
  have G : ∀ base, Gd R.prog w K mg base pr := fun base => gd_of hK hns hm1 hs rfl rfl rfl allOk
  obtain ⟨fa1, fd, e1, e2, e3, e4, e5, e6, e7⟩ := fn_all (G h) 40 70 _ _ names70
  rw [hm] at e1
  cases e1
  refine ⟨K, fd, spV (pgOf pr 40) K mg 70 1, hK, fun s u => .of_eq (e7 [u] rfl), fun H a ns hl hb hO hS => ?_, fun base _ _ => ?_⟩
  · refine ⟨rfl, ⟨fun b => False, []⟩, [.scr ns], [], .p (.bool true), [], ⟨rfl, fun n o a e _ => by simp at e, List.nodup_nil, fun n xs a e _ => by simp at e, fun a z => z.elim, fun a z => by cases z⟩, .cons (.scr hS) .nil, math ns, fun g' v H' m c r => ?_⟩
    cases r.dz
    rfl
  · obtain ⟨fa2, fd2, f1, f2, f3, f4, f5, f6, f7⟩ := fn_all (G base) 40 70 _ _ names70
    rw [hm] at f1
    cases f1
    rw [e6.inj f6] at f3
    exact f3
theorem isDef : (defOf qv R.name).isSome = true := by kernel_rfl
def dL : DefRec := ((defOf qv R.name).get isDef).1
theorem defL : defOf qv R.name = some (dL, []) := by kernel_rfl
theorem holds : PySem.Challenge.rw_surelyheld_k95_any_string_as_a_command.Holds := by
  w_on
  o_law
  refine HandSHeadRun.head_imp (r := R) (q := qv) (H := hookS 3 md ds) (ob := fun x => obsSG 3 md ds (HandSHeadRun.getT x)) (M := 6000) (loose := loose) (d := dL) (kwd := []) (fun s => obsSG_eq (HandSHeadRun.getT_eq s)) run defL ?hp ?hk ?hwr ?k1 ?ok ?hb ?hw ?call
  case k1 => assumption
  case hp => kernel_rfl
  case hk => kernel_rfl
  case hwr => kernel_rfl
  case ok => kernel_rfl
  case hb => exact ⟨rfl, rfl, rfl, rfl, rfl, by kernel_rfl⟩
  case hw => w_witness2
  case call =>
    refine walkG (k := 40) (n := 63) (x := Str.ofString "script") rfl (by decide) (by kernel_rfl) ⟨rfl, by decide, by decide⟩ fun w mg fa h Y hns hm => ?_
    exact promise w mg fa h Y hns hm
end
end K95
theorem PySem.Challenge.cw_surelyheld_k95_any_string_as_a_command_holds : PySem.Challenge.rw_surelyheld_k95_any_string_as_a_command.Holds := by
  exact K95.holds
