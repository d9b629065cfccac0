import PyProof.Rows.All
import Wide.All
import OpenK.AllK
import Wide.FinOn
import HandS.ForMost
import HandS.ForExc
import HandS.IsInst
import HandS.Defaults
import HandS.Star
import HandS.Deep
import HandS.Walk
import HandS.TupAny
import PySem.Challenge.RW_addedgrounds_k59_whole_steps_of_deeds
import HandS.Zip0
import KE.GoesMore
import KE.GoesEnum
import HandS.Property
import HandS.MakeKwOnly
import HandS.More
import HandS.HeadHook4
import HandS.Head2
import KE.KExcInit
import KE.KExcSuper
import KE.KTryMore
import HandS.ExcField
import HandS.GenYield
import HandS.GenCall
import HandS.GenList
import HandS.Style
import HandS.OwnEq
import HandS.ListEq
import HandS.DictComp
import HandS.ExcInit
import HandS.WordsDict
import HandS.HotCalls
import HandS.Finally
import HandS.FStr
import HandS.Text
import HandS.Zip
import HandS.Conv
import HandS.Nested
import HandS.MakeKw
import PyProof.NeKinds
import HandS.HeadEnd
import HandS.HeadWalk
import HandS.EndOwn
set_option Elab.async false
set_option linter.all false
set_option maxRecDepth 100000
set_option maxHeartbeats 4000000
/-! The ground: the text by places, data in the heap, short calls. -/
namespace AG
open PySem PySem.Spec PyProof.Rows L2
/-! ### the text -/
def top (i : Nat) : Stmt := PySem.Challenge.pw_addedgrounds_k59_whole_steps_of_deeds.main.body.getD i (.Pass ⟨0, 0, 0, 0⟩)
/-! ### data: what a value stands for; Mu: the addresses that may change -/
abbrev Mut1 := Addr → Prop
mutual
/-- v stands for d, by objects outside Mu -/
inductive Dat (Mu : Mut1) (H : Hp) : V → PyData → Prop
  | non : Dat Mu H .non .none
  | bl (b : Bool) : Dat Mu H (.bl b) (.bool b)
  | int (i : Int) : Dat Mu H (.int i) (.int i)
  | str (x : Str) : Dat Mu H (.str x) (.str x)
  | lst {a : Addr} {xs : List V} {ds : List PyData} (m : ¬ Mu a) (h : H a = some (.lst xs)) (r : Dats Mu H xs ds) : Dat Mu H (.ref a) (.list ds)
  | tup {a : Addr} {xs : List V} {ds : List PyData} (m : ¬ Mu a) (h : H a = some (.tup xs)) (r : Dats Mu H xs ds) : Dat Mu H (.ref a) (.tuple ds)
inductive Dats (Mu : Mut1) (H : Hp) : List V → List PyData → Prop
  | nil : Dats Mu H [] []
  | cons {v : V} {vs : List V} {d : PyData} {ds : List PyData} (h : Dat Mu H v d) (t : Dats Mu H vs ds) : Dats Mu H (v :: vs) (d :: ds)
end
/-- all but the addresses of Mu stays as it is; nothing goes -/
structure Kp (Mu : Mut1) (H H' : Hp) : Prop where
  at_ : ∀ b o, ¬ Mu b → H b = some o → H' b = some o
  there : ∀ b, H b ≠ none → H' b ≠ none
theorem Kp.refl {Mu : Mut1} (H : Hp) : Kp Mu H H := ⟨fun _ _ _ h => h, fun _ h => h⟩
theorem Kp.trans {Mu : Mut1} {H H1 H2 : Hp} (a : Kp Mu H H1) (b : Kp Mu H1 H2) : Kp Mu H H2 := ⟨fun c o m h => b.at_ c o m (a.at_ c o m h), fun c h => b.there c (a.there c h)⟩
theorem Kp.of {Mu : Mut1} {H H' : Hp} (s : Same H H') : Kp Mu H H' := ⟨fun b o _ h => s b o h, fun b h => by
  cases e : H b with
  | none => exact absurd e h
  | some o =>
    rw [s b o e]
    exact fun z => by cases z⟩
theorem Kp.wide {Mu Mv : Mut1} {H H' : Hp} (k : Kp Mu H H') (i : ∀ b, Mu b → Mv b) : Kp Mv H H' := ⟨fun b o m h => k.at_ b o (fun z => m (i b z)) h, k.there⟩
theorem Kp.same {Mu : Mut1} {H H' : Hp} (k : Kp Mu H H') (i : ∀ b, ¬ Mu b) : Same H H' := fun b o h => k.at_ b o (i b) h
theorem Kp.fresh {Mu : Mut1} {H H' : Hp} (k : Kp Mu H H') {b : Addr} (h : H' b = none) : H b = none := Classical.byContradiction fun z => k.there b z h
mutual
theorem Dat.keep {Mu : Mut1} {H H' : Hp} (k : Kp Mu H H') : ∀ {v : V} {d : PyData}, Dat Mu H v d → Dat Mu H' v d
  | _, _, .non => .non
  | _, _, .bl b => .bl b
  | _, _, .int i => .int i
  | _, _, .str x => .str x
  | _, _, .lst m h r => .lst m (k.at_ _ _ m h) (Dats.keep k r)
  | _, _, .tup m h r => .tup m (k.at_ _ _ m h) (Dats.keep k r)
theorem Dats.keep {Mu : Mut1} {H H' : Hp} (k : Kp Mu H H') : ∀ {vs : List V} {ds : List PyData}, Dats Mu H vs ds → Dats Mu H' vs ds
  | _, _, .nil => .nil
  | _, _, .cons h t => .cons (Dat.keep k h) (Dats.keep k t)
end
theorem Dat.same {Mu : Mut1} {H H' : Hp} (s : Same H H') {v : V} {d : PyData} (h : Dat Mu H v d) : Dat Mu H' v d := h.keep (.of s)
theorem Dats.same {Mu : Mut1} {H H' : Hp} (s : Same H H') {v : List V} {d : List PyData} (h : Dats Mu H v d) : Dats Mu H' v d := h.keep (.of s)
mutual
/-- more may change from now on: what is not in the heap yet -/
theorem Dat.grow {Mu Mv : Mut1} {H : Hp} (g : ∀ b, Mv b → Mu b ∨ H b = none) : ∀ {v : V} {d : PyData}, Dat Mu H v d → Dat Mv H v d
  | _, _, .non => .non
  | _, _, .bl b => .bl b
  | _, _, .int i => .int i
  | _, _, .str x => .str x
  | _, _, .lst m h r => .lst (fun q => (g _ q).elim m fun n => by rw [h] at n; cases n) h (Dats.grow g r)
  | _, _, .tup m h r => .tup (fun q => (g _ q).elim m fun n => by rw [h] at n; cases n) h (Dats.grow g r)
theorem Dats.grow {Mu Mv : Mut1} {H : Hp} (g : ∀ b, Mv b → Mu b ∨ H b = none) : ∀ {vs : List V} {ds : List PyData}, Dats Mu H vs ds → Dats Mv H vs ds
  | _, _, .nil => .nil
  | _, _, .cons h t => .cons (Dat.grow g h) (Dats.grow g t)
end
theorem Dats.length {Mu : Mut1} {H : Hp} : ∀ {vs : List V} {ds : List PyData}, Dats Mu H vs ds → vs.length = ds.length
  | _, _, .nil => rfl
  | _, _, .cons _ t => congrArg Nat.succ (Dats.length t)
theorem Dats.get {Mu : Mut1} {H : Hp} : ∀ {vs : List V} {ds : List PyData} {i : Nat} {v : V}, Dats Mu H vs ds → vs[i]? = some v → ∃ d, ds[i]? = some d ∧ Dat Mu H v d
  | _, _, _, _, .nil, e => by simp at e
  | _, _, 0, _, .cons h _, e => by
    cases e
    exact ⟨_, rfl, h⟩
  | _, _, i + 1, v, .cons _ t, e => Dats.get (i := i) (v := v) t e
theorem Dats.at {Mu : Mut1} {H : Hp} : ∀ {vs : List V} {ds : List PyData} {i : Nat} {d : PyData}, Dats Mu H vs ds → ds[i]? = some d → ∃ v, vs[i]? = some v ∧ Dat Mu H v d
  | _, _, _, _, .nil, e => by simp at e
  | _, _, 0, _, .cons h _, e => by
    cases e
    exact ⟨_, rfl, h⟩
  | _, _, i + 1, v, .cons _ t, e => Dats.at (i := i) (d := v) t e
theorem Dats.app {Mu : Mut1} {H : Hp} : ∀ {vs ws : List V} {ds es : List PyData}, Dats Mu H vs ds → Dats Mu H ws es → Dats Mu H (vs ++ ws) (ds ++ es)
  | _, _, _, _, .nil, r => r
  | _, _, _, _, .cons h t, r => .cons h (Dats.app t r)
theorem Dats.take {Mu : Mut1} {H : Hp} : ∀ {vs : List V} {ds : List PyData} (n : Nat), Dats Mu H vs ds → Dats Mu H (vs.take n) (ds.take n)
  | _, _, 0, _ => .nil
  | _, _, _ + 1, .nil => .nil
  | _, _, n + 1, .cons h t => .cons h (Dats.take n t)
theorem Dats.drop {Mu : Mut1} {H : Hp} : ∀ {vs : List V} {ds : List PyData} (n : Nat), Dats Mu H vs ds → Dats Mu H (vs.drop n) (ds.drop n)
  | _, _, 0, r => r
  | _, _, _ + 1, .nil => .nil
  | _, _, n + 1, .cons _ t => Dats.drop n t
theorem dats_strs {Mu : Mut1} {H : Hp} : ∀ xs : List Str, Dats Mu H (xs.map V.str) (xs.map PyData.str)
  | [] => .nil
  | x :: r => .cons (.str x) (dats_strs r)
theorem dats_strs_eq {Mu : Mut1} {H : Hp} : ∀ {vs : List V} {xs : List Str}, Dats Mu H vs (xs.map PyData.str) → vs = xs.map V.str
  | _, [], .nil => rfl
  | _, x :: r, .cons h t => by
    cases h
    rw [dats_strs_eq t]
    rfl
/-- the changing addresses are there -/
def Wl (Mu : Mut1) (H : Hp) : Prop := ∀ b, Mu b → H b ≠ none
theorem Wl.new {Mu : Mut1} {H : Hp} (w : Wl Mu H) {p : Addr} (n : H p = none) : ¬ Mu p := fun m => w p m n
theorem Wl.same {Mu : Mut1} {H H' : Hp} (w : Wl Mu H) (s : Same H H') : Wl Mu H' := fun b m z => w b m (s.free z)
theorem Wl.kp {Mu Mv : Mut1} {H H' : Hp} (w : Wl Mu H) (k : Kp Mv H H') : Wl Mu H' := fun b m => k.there b (w b m)
theorem Wl.no (H : Hp) : Wl (fun _ => False) H := fun _ m => m.elim
theorem same_new {H : Hp} {p : Addr} {o : HO} (n : H p = none) : Same H (upd H p o) := fun b u e => by
  rw [upd_ne (ne_of_none e n)]
  exact e
/-- what is wanted of a new tuple, list, by its data -/
theorem tup_new {Mu : Mut1} {H : Hp} {xs : List V} {ds : List PyData} {Q : VK} (w : Wl Mu H) (r : Dats Mu H xs ds) (q : ∀ p H', Same H H' → Dat Mu H' (.ref p) (.tuple ds) → H p = none → H' p = some (.tup xs) → Q (.ref p) H') : ∀ p, H p = none → Q (.ref p) (upd H p (.tup xs)) := fun p n =>
  q p _ (same_new n) (.tup (w.new n) upd_same (r.same (same_new n))) n upd_same
theorem lst_new {Mu : Mut1} {H : Hp} {xs : List V} {ds : List PyData} {Q : VK} (w : Wl Mu H) (r : Dats Mu H xs ds) (q : ∀ p H', Same H H' → Dat Mu H' (.ref p) (.list ds) → H p = none → H' p = some (.lst xs) → Q (.ref p) H') : ∀ p, H p = none → Q (.ref p) (upd H p (.lst xs)) := fun p n =>
  q p _ (same_new n) (.lst (w.new n) upd_same (r.same (same_new n))) n upd_same
/-- a value's object -/
theorem Dat.asTup {Mu : Mut1} {H : Hp} {v : V} {ds : List PyData} (h : Dat Mu H v (.tuple ds)) : ∃ a xs, v = .ref a ∧ ¬ Mu a ∧ H a = some (.tup xs) ∧ Dats Mu H xs ds := by
  cases h with
  | tup m h r => exact ⟨_, _, rfl, m, h, r⟩
theorem Dat.asLst {Mu : Mut1} {H : Hp} {v : V} {ds : List PyData} (h : Dat Mu H v (.list ds)) : ∃ a xs, v = .ref a ∧ ¬ Mu a ∧ H a = some (.lst xs) ∧ Dats Mu H xs ds := by
  cases h with
  | lst m h r => exact ⟨_, _, rfl, m, h, r⟩
theorem Dat.asStr {Mu : Mut1} {H : Hp} {v : V} {x : Str} (h : Dat Mu H v (.str x)) : v = .str x := by
  cases h
  rfl
theorem Dat.asInt {Mu : Mut1} {H : Hp} {v : V} {x : Int} (h : Dat Mu H v (.int x)) : v = .int x := by
  cases h
  rfl
mutual
theorem Dat.dp {Mu : Mut1} {K : PySem.W.Frag} {H : Hp} : ∀ {v : V} {d : PyData}, Dat Mu H v d → Dp K H v d
  | _, _, .non => .non
  | _, _, .bl b => .bl b
  | _, _, .int i => .int i
  | _, _, .str x => .str x
  | _, _, .lst _ h r => .lst (SqL.of h) (Dats.dp r)
  | _, _, .tup _ h r => .tup (SqT.of h) (Dats.dp r)
theorem Dats.dp {Mu : Mut1} {K : PySem.W.Frag} {H : Hp} : ∀ {vs : List V} {ds : List PyData}, Dats Mu H vs ds → DpAll K H vs ds
  | _, _, .nil => .nil
  | _, _, .cons h t => .cons (Dat.dp h) (Dats.dp t)
end
/-! ### defs that are ready to be called -/
/-- the module's x is a def that keeps sp, by level k -/
structure Def (P : Program) (w : World) (K : PySem.W.Frag) (mg : Str → Option Value) (base : Heap) (CX : CXT) (x : Str) (ps : List Str) (k : Nat) (sp : Sp) : Prop where
  ex : ∃ (f : Addr) (fd : FuncData), mg x = some (.ref f) ∧ PySem.W.keepIn K (.ref f) = true ∧ FnOk P w K mg base CX k f fd ps sp ∧ Binds K fd ps []
section
variable {X : Cx} {CX : CXT} {k j : Nat} {ps : List Str} {sp : Sp} {E : XK} {x : Str} {p pos : Pos} {e : Expr} {es : List Expr} {t : TA}
theorem dcall (G : Def X.prog X.w X.K X.mg X.base CX x ps k sp) (hr : Room j X.A) (hk : k ≤ j) (hx : Passes CX X E) (ha : PA X (e :: es) t) (hg : Gl X x := by rfl) (hdb : (x == ("__debug__" : Str)) = false := by decide +kernel)
    (he : starEach (e :: es) X.env = (false, eval e X.env) :: starEach es X.env := by rfl) (hpl : (backTo pos (starEach es X.env)).any (·.1) = false := by rfl) : PE X (.Call (.Name x p) (e :: es) [] pos) (tCall sp [] E t) := by
  obtain ⟨f, fd, hm, kp, F, b⟩ := G.ex
  exact pe_call F (hr.mono hk) hg hm kp b .nil hx ha hdb he hpl
end
/-- a def without defaults as it stands -/
abbrev FnP (K : PySem.W.Frag) (x q : Str) (st : Stmt) (f : Addr) (fd : FuncData) : Prop := FunD K x q (defArgs st) (defBody st) (defScope st) [] [] f fd
/-- the module's x is the def st -/
structure At (K : PySem.W.Frag) (mg : Str → Option Value) (x : Str) (st : Stmt) : Prop where
  ex : ∃ (f : Addr) (fd : FuncData), mg x = some (.ref f) ∧ FnP K x x st f fd
theorem At.def_ {P : Program} {w : World} {K : PySem.W.Frag} {mg : Str → Option Value} {base : Heap} {CX : CXT} {x : Str} {st : Stmt} {N ps : List Str} {k : Nat} {sp : Sp} (T : At K mg x st) (S : FnScope N ps (defScope st)) (len : ∀ vs H Q E, sp vs H Q E → vs.length = ps.length)
    (hb : ∀ (kV doc pm : Value) (an : Option Addr) (cdv ct : Value) (us : List Value), us.length = ps.length → bindArgs (PySem.W.fnOf x x (defArgs st) (defBody st) (defScope st) .none kV doc pm an cdv ct) ⟨us, []⟩ = pure (ps.zip us))
    (hbody : ∀ (f : Addr) (cdv : Value) (A : Around) (outer : List Env) (s : Shared) (H : Hp) (vs : List V) (Q : VK) (E : XK), Room k (A.deeper (envOfC x (defScope st) s.heap.objs.size f cdv)) → sp vs H Q E →
      ∃ t, PSs (cxOf CX P w K mg base N x (defScope st) f cdv A outer s H E) (defBody st) t ∧ t { nx := fun _ H' => Q .non H', rt := Q } (start N vs) H) : Def P w K mg base CX x ps (k + 1) sp := by
  obtain ⟨f, fd, hm, F⟩ := T.ex
  exact ⟨f, fd, hm, F.kp, F.ok S len fun cdv A outer s H vs Q E hr hs => hbody f cdv A outer s H vs Q E hr hs, F.bindsN hb⟩
end AG
namespace AG
open PySem PySem.Spec PyProof.Rows L2
/-! ### rules by values, weakened -/
theorem opR_imp {X : Cx} {f : Value → Value → Sem Value} {r r' : R2} (h : OpR X f r) (i : ∀ x y H Q, r' x y H Q → r x y H Q) : OpR X f r' := fun pins s σ H x y v u Q I rx ry q => h pins s σ H x y v u Q I rx ry (i _ _ _ _ q)
theorem callR_imp {X : Cx} {f : Value} {r r' : List V → Hp → VK → Prop} (h : CallR X f r) (i : ∀ xs H Q, r' xs H Q → r xs H Q) : CallR X f r' := fun pins s σ H xs us Q I r q => h pins s σ H xs us Q I r (i _ _ _ q)
theorem ixR_imp {X : Cx} {r r' : R2} (h : IxR X r) (i : ∀ x y H Q, r' x y H Q → r x y H Q) : IxR X r' := fun a b pins s σ H x y v u Q I rx ry q => h a b pins s σ H x y v u Q I rx ry (i _ _ _ _ q)
theorem slR_imp {X : Cx} {r r' : V → Option Int → Option Int → Hp → VK → Prop} (h : SlR X r) (i : ∀ x lo hi H Q, r' x lo hi H Q → r x lo hi H Q) : SlR X r' := fun pins s σ H x v vl vu lo hi sl Q I rx hs pl pu q => h pins s σ H x v vl vu lo hi sl Q I rx hs pl pu (i _ _ _ _ _ q)
/-! ### the kinds of data -/
inductive Kd where
  | non | bool | int | str | list | tuple | dict
def Kd.n : Kd → String
  | .non => "NoneType"
  | .bool => "bool"
  | .int => "int"
  | .str => "str"
  | .list => "list"
  | .tuple => "tuple"
  | .dict => "dict"
def kdOf : PyData → Kd
  | .none => .non
  | .bool _ => .bool
  | .int _ => .int
  | .str _ => .str
  | .list _ => .list
  | .tuple _ => .tuple
  | .dict _ => .dict
/-- is a value of the kind t one of n -/
def isK : Kd → Kd → Bool
  | .non, .non => true
  | .bool, .bool => true
  | .int, .int => true
  | .int, .bool => true
  | .str, .str => true
  | .list, .list => true
  | .tuple, .tuple => true
  | .dict, .dict => true
  | _, _ => false
/-- a value's kind -/
def KdV (K : PySem.W.Frag) (H : Hp) (v : V) (k : Kd) : Prop := TyX K H v (.type k.n)
theorem Dat.kd {Mu : Mut1} {K : PySem.W.Frag} {H : Hp} {v : V} {d : PyData} (h : Dat Mu H v d) : KdV K H v (kdOf d) := by
  cases h with
  | non => exact .base .non
  | bl b => exact .base (.bl b)
  | int i => exact .base (.int i)
  | str x => exact .base (.str x)
  | lst m h r => exact .base (.lst h)
  | tup m h r => exact .base (.tup h)
theorem kit_k {K : PySem.W.Frag} (n t : Kd) (hn : n ≠ .non) : PySem.W.kitOne K (.type t.n) (.type n.n) = some (isK n t) := by
  refine kit_ty ?_
  cases n <;> first | exact absurd rfl hn | (cases t <;> decide +kernel)
/-! ### readings -/
/-- isinstance(a, one kind) -/
def rIsK (K : PySem.W.Frag) (n : Kd) : List V → Hp → VK → Prop := fun vs H Q => match vs with
  | [v, c] => c = .ty n.n ∧ ∃ k, KdV K H v k ∧ Q (.bl (isK n k)) H
  | _ => False
/-- isinstance(a, (one kind, another)) -/
def rIsKT (K : PySem.W.Frag) (m n : Kd) : List V → Hp → VK → Prop := fun vs H Q => match vs with
  | [v, t] => ∃ tp k, t = .ref tp ∧ H tp = some (.tup [.ty m.n, .ty n.n]) ∧ KdV K H v k ∧ Q (.bl (isK m k || isK n k)) H
  | _ => False
def rLenC (K : PySem.W.Frag) : List V → Hp → VK → Prop := fun vs H Q => match vs with
  | [v] => ∃ n, LenV K v H n ∧ Q (.int (n : Int)) H
  | _ => False
def rEqC : R2 := fun x y H Q => scal x y = true ∧ (x = y → Q (.bl true) H) ∧ (x ≠ y → Q (.bl false) H)
def rNeC : R2 := fun x y H Q => scal x y = true ∧ (x = y → Q (.bl false) H) ∧ (x ≠ y → Q (.bl true) H)
def rInC (K : PySem.W.Frag) (neg : Bool) : R2 := fun x y H Q => ∃ p xs, y = .ref p ∧ (SqL K H p xs ∨ SqT K H p xs) ∧ flatV x = true ∧ xs.all flatV = true ∧ (inV x xs = true → Q (.bl (!neg)) H) ∧ (inV x xs = false → Q (.bl neg) H)
def itemsD : PyData → List PyData
  | .list ds => ds
  | .tuple ds => ds
  | _ => []
def rIxD : R2 := fun x y H Q => ∃ Mu d e, ∃ n : Nat, Dat Mu H x d ∧ y = .int (n : Int) ∧ (itemsD d)[n]? = some e ∧ ∀ z, Dat Mu H z e → Q z H
section
variable {X : Cx}
theorem cisK (k : Kd) (hk : k ≠ .non) : CallR X (.builtin "isinstance") (rIsK X.K k) := callR_imp call_isi fun xs H Q q => by
  match xs, q with
  | [v, c], ⟨e, t, ht, q⟩ => exact ⟨v, c, _, _, _, rfl, by rw [e]; exact .ty k.n, ht, kit_k k t hk, q⟩
theorem cisKT (m n : Kd) (hm : m ≠ .non) (hn : n ≠ .non) : CallR X (.builtin "isinstance") (rIsKT X.K m n) := callR_imp call_isiT fun xs H Q q => by
  match xs, q with
  | [v, t], ⟨tp, k, e, ht, hk, q⟩ =>
    refine ⟨v, tp, _, _, _, _, by rw [e], ht, .cons (.ty m.n) (.cons (.ty n.n) .nil), hk, kitAny_cons (kit_k m k hm) (r := isK m k || isK n k) (fun z => ?_) (fun z => by rw [z]; rfl), q⟩
    rw [z]
    refine kitAny_cons (kit_k n k hn) (fun y => ?_) fun y => by rw [y]; rfl
    rw [y]
    rfl
theorem clen : CallR X (.builtin "len") (rLenC X.K) := callR_imp call_len fun xs H Q q => by
  match xs, q with
  | [v], ⟨n, h, q⟩ => exact ⟨v, n, rfl, h, q⟩
theorem op_eqC : OpR X (compareOp .Eq) rEqC := opR_imp op_eq fun x y H Q ⟨s, a, b⟩ => ⟨s, by
  by_cases e : x = y
  · rw [decide_eq_true e]
    exact a e
  · rw [decide_eq_false e]
    exact b e⟩
theorem op_neC : OpR X (compareOp .NotEq) rNeC := opR_imp op_ne fun x y H Q ⟨s, a, b⟩ => ⟨s, by
  by_cases e : x = y
  · rw [decide_eq_true e]
    exact a e
  · rw [decide_eq_false e]
    exact b e⟩
theorem op_inC : OpR X (compareOp .In) (rInC X.K false) := opR_imp op_in_seq fun x y H Q ⟨p, xs, e, h, f, g, a, b⟩ => ⟨p, xs, e, h, f, g, by
  cases i : inV x xs with
  | true => exact a i
  | false => exact b i⟩
theorem op_notInC : OpR X (compareOp .NotIn) (rInC X.K true) := opR_imp op_notIn_seq fun x y H Q ⟨p, xs, e, h, f, g, a, b⟩ => ⟨p, xs, e, h, f, g, by
  cases i : inV x xs with
  | true => exact a i
  | false => exact b i⟩
theorem ix_dat : IxR X rIxD := ixR_imp (IxR.or ix_list ix_tup) fun x y H Q ⟨Mu, d, e, n, h, ey, hn, q⟩ => by
  cases h with
  | lst m h r =>
    obtain ⟨z, ez, dz⟩ := r.at hn
    exact .inl ⟨_, _, _, z, rfl, ey, SqL.of h, atI_nat ez, q z dz⟩
  | tup m h r =>
    obtain ⟨z, ez, dz⟩ := r.at hn
    exact .inr ⟨_, _, _, z, rfl, ey, SqT.of h, atI_nat ez, q z dz⟩
  | _ => simp [itemsD] at hn
end
section
variable {X : Cx} {a b c : Expr} {ta tb : TE} {t : TA} {p pos : Pos} {es : List Expr}
theorem gty (k : Kd) {x : Str} (h : X.mg x = none) (hv : bootBuiltins x = some (.type k.n)) (hg : Gl X x := by rfl) (h1 : x ≠ "__name__" := by decide +kernel) (h2 : (x == ("__debug__" : Str)) = false := by decide +kernel) : PE X (.Name x pos) (tC (.ty k.n)) := pe_bltn hg h hv rfl h1 h2
theorem bb_int : bootBuiltins "int" = some (.type Kd.int.n) := by decide +kernel
theorem bb_str : bootBuiltins "str" = some (.type Kd.str.n) := by decide +kernel
theorem bb_bool : bootBuiltins "bool" = some (.type Kd.bool.n) := by decide +kernel
theorem bb_list : bootBuiltins "list" = some (.type Kd.list.n) := by decide +kernel
theorem bb_tuple : bootBuiltins "tuple" = some (.type Kd.tuple.n) := by decide +kernel
theorem bb_dict : bootBuiltins "dict" = some (.type Kd.dict.n) := by decide +kernel
theorem bb_isi : bootBuiltins "isinstance" = some (.builtin "isinstance") := by decide +kernel
theorem bb_all : bootBuiltins "all" = some (.builtin "all") := by decide +kernel
theorem isi (k : Kd) (h : X.mg "isinstance" = none) (ha : PA X (a :: es) t) (hk : k ≠ .non := by intro z; cases z) (hg : Gl X "isinstance" := by rfl) (he : starEach (a :: es) X.env = (false, eval a X.env) :: starEach es X.env := by rfl) (hpl : (backTo pos (starEach es X.env)).any (·.1) = false := by rfl) :
    PE X (.Call (.Name "isinstance" p) (a :: es) [] pos) (tCB (rIsK X.K k) t) := pe_callB (cisK k hk) hg h bb_isi ha (he := he) (hpl := hpl)
theorem isi2 (m n : Kd) (h : X.mg "isinstance" = none) (ha : PA X (a :: es) t) (hm : m ≠ .non := by intro z; cases z) (hn : n ≠ .non := by intro z; cases z) (hg : Gl X "isinstance" := by rfl) (he : starEach (a :: es) X.env = (false, eval a X.env) :: starEach es X.env := by rfl)
    (hpl : (backTo pos (starEach es X.env)).any (·.1) = false := by rfl) : PE X (.Call (.Name "isinstance" p) (a :: es) [] pos) (tCB (rIsKT X.K m n) t) := pe_callB (cisKT m n hm hn) hg h bb_isi ha (he := he) (hpl := hpl)
theorem len1 (h : X.mg "len" = none) (ha : PA X (a :: es) t) (hg : Gl X "len" := by rfl) (he : starEach (a :: es) X.env = (false, eval a X.env) :: starEach es X.env := by rfl) (hpl : (backTo pos (starEach es X.env)).any (·.1) = false := by rfl) :
    PE X (.Call (.Name "len" p) (a :: es) [] pos) (tCB (rLenC X.K) t) := pe_callB clen hg h PySem.boot_len ha (he := he) (hpl := hpl)
theorem all1 (hc : X.calm = true) (h : X.mg "all" = none) (ha : PA X (a :: es) t) (hg : Gl X "all" := by rfl) (he : starEach (a :: es) X.env = (false, eval a X.env) :: starEach es X.env := by rfl) (hpl : (backTo pos (starEach es X.env)).any (·.1) = false := by rfl) :
    PE X (.Call (.Name "all" p) (a :: es) [] pos) (tCB (rAll X.K) t) := pe_callB (cr_all hc) hg h bb_all ha (he := he) (hpl := hpl)
/-- a constant of the module -/
structure Cst (mg : Str → Option Value) (x : Str) (v : V) : Prop where
  ex : ∃ u, mg x = some u ∧ RelV v u
theorem gcst {x : Str} {v : V} (c : Cst X.mg x v) (hg : Gl X x := by rfl) (hd : (x == ("__debug__" : Str)) = false := by decide +kernel) : PE X (.Name x pos) (tC v) := by
  obtain ⟨u, h, r⟩ := c.ex
  exact pe_glob hg h r hd
end
/-! ### slices by data -/
def cutG {α : Type} (xs : List α) (lo hi : Option Int) : List α := (xs.drop (HT.sIx xs.length 0 lo)).take (HT.sIx xs.length xs.length hi - HT.sIx xs.length 0 lo)
theorem Dats.cut {Mu : Mut1} {H : Hp} {xs : List V} {ds : List PyData} (r : Dats Mu H xs ds) (lo hi : Option Int) : Dats Mu H (cutG xs lo hi) (cutG ds lo hi) := by
  unfold cutG
  rw [r.length]
  exact (r.drop _).take _
def rSlTD : V → Option Int → Option Int → Hp → VK → Prop := fun x lo hi H Q => ∃ Mu ds, Wl Mu H ∧ Dat Mu H x (.tuple ds) ∧ ∀ p H', Same H H' → Dat Mu H' (.ref p) (.tuple (cutG ds lo hi)) → Q (.ref p) H'
def rSlLD : V → Option Int → Option Int → Hp → VK → Prop := fun x lo hi H Q => ∃ Mu ds, Wl Mu H ∧ Dat Mu H x (.list ds) ∧ ∀ p H', Same H H' → Dat Mu H' (.ref p) (.list (cutG ds lo hi)) → Q (.ref p) H'
section
variable {X : Cx}
theorem sl_tupD : SlR X rSlTD := slR_imp sl_tupA fun x lo hi H Q ⟨Mu, ds, wl, h, q⟩ => by
  obtain ⟨a, xs, rfl, m, h, r⟩ := h.asTup
  refine ⟨a, xs, rfl, SqT.of h, fun z => ?_, fun _ p n => ?_⟩
  · refine q a H (Same.refl H) (.tup m h ?_)
    have c := r.cut lo hi
    have e : cutG xs lo hi = xs := by
      unfold cutG
      rw [z.1, z.2, List.drop_zero, Nat.sub_zero, List.take_length]
    rw [e] at c
    exact c
  · exact q p _ (same_new n) (.tup (wl.new n) upd_same ((r.cut lo hi).same (same_new n)))
theorem sl_lstD : SlR X rSlLD := slR_imp sl_list fun x lo hi H Q ⟨Mu, ds, wl, h, q⟩ => by
  obtain ⟨a, xs, rfl, m, h, r⟩ := h.asLst
  exact ⟨a, xs, rfl, SqL.of h, fun p n => q p _ (same_new n) (.lst (wl.new n) upd_same ((r.cut lo hi).same (same_new n)))⟩
end
theorem Dat.lenT {Mu : Mut1} {K : PySem.W.Frag} {H : Hp} {v : V} {ds : List PyData} (h : Dat Mu H v (.tuple ds)) : LenV K v H ds.length := by
  obtain ⟨a, xs, rfl, _, h, r⟩ := h.asTup
  exact .inr ⟨_, SqT.of h, r.length.symm⟩
theorem Dat.lenL {Mu : Mut1} {K : PySem.W.Frag} {H : Hp} {v : V} {ds : List PyData} (h : Dat Mu H v (.list ds)) : LenV K v H ds.length := by
  obtain ⟨a, xs, rfl, _, h, r⟩ := h.asLst
  exact .inl ⟨_, SqL.of h, r.length.symm⟩
/-! ### comprehensions by data -/
theorem Dat.less {Mu Mv : Mut1} {H : Hp} (g : ∀ b, Mv b → Mu b) {v : V} {d : PyData} (h : Dat Mu H v d) : Dat Mv H v d := h.grow fun b m => .inl (g b m)
theorem Dats.less {Mu Mv : Mut1} {H : Hp} (g : ∀ b, Mv b → Mu b) {v : List V} {d : List PyData} (h : Dats Mu H v d) : Dats Mv H v d := h.grow fun b m => .inl (g b m)
/-- Mu and the address D -/
abbrev wi (Mu : Mut1) (D : Addr) : Mut1 := fun b => Mu b ∨ b = D
theorem kp_upd {Mu : Mut1} {H : Hp} {D : Addr} {o : HO} (m : Mu D) : Kp Mu H (upd H D o) := ⟨fun b u n e => by
  rw [upd_ne (fun z => n (by rw [z]; exact m))]
  exact e, fun b h => by
  by_cases z : b = D
  · rw [z, upd_same]
    exact fun z => by cases z
  · rw [upd_ne z]
    exact h⟩
theorem Wl.wi {Mu : Mut1} {H : Hp} (w : Wl Mu H) {D : Addr} (h : H D ≠ none) : Wl (wi Mu D) H := fun b m => m.elim (w b) fun e => by rw [e]; exact h
theorem same_at {H H' : Hp} {D : Addr} (s : Same H H') (h : H D ≠ none) : H' D = H D := by
  cases e : H D with
  | none => exact absurd e h
  | some o => exact s D o e
/-- a comprehension over w: acc i is what stands in the new list ahead of turn i; Mc: what the turns may change; Z: what they keep besides -/
theorem lc_dat {J : It} {n : Nat} {G : Hp → Prop} {Y : Nat → Hp → V → Hp → Prop} (w : Walk J n G Y) {Mc Mu : Mut1} (hc : ∀ b, Mc b → Mu b) {g : TG} {tt : TT} {te : TE} {vs : List Nat} {σ : L2.St} {H1 : Hp} {D : Addr} {Qd : Hp → Prop} (wl : Wl Mu H1) (hD : H1 D = none) (hn : n ≤ 100000)
    (acc : Nat → List PyData) (a0 : acc 0 = []) (Z : Nat → Hp → Prop) (z0 : Z 0 H1) (hZ : ∀ i H l, Z i H → Z i (upd H D (.lst l))) (hG : ∀ i H, Kp (wi Mc D) H1 H → Z i H → G H)
    (hs : ∀ i x H H' (add : V → Hp → Prop) (skip : Hp → Prop), i < n → Kp (wi Mc D) H1 H → Wl (wi Mu D) H → H D ≠ none → Z i H → Y i H x H' → (∀ y H4 d, Kp Mc H H4 → H4 D = H D → Dat (wi Mu D) H4 y d → acc (i + 1) = acc i ++ [d] → Z (i + 1) H4 → add y H4) →
      (∀ H3, Kp Mc H H3 → H3 D = H D → acc (i + 1) = acc i → Z (i + 1) H3 → skip H3) → g x (wipe σ vs) H' fun σ2 H2 => wipe σ2 vs = wipe σ vs ∧ tt σ2 H2 fun b H3 => if b = true then te σ2 H3 add else skip H3)
    (hd : ∀ H xs, Kp Mc H1 H → H D = some (.lst xs) → Dats Mu H xs (acc n) → Z n H → ¬ Mu D → Qd H) :
    ∃ W : Nat → Nat → Hp → Prop, (∃ m, W 0 m (upd H1 D (.lst []))) ∧ ∀ i m H, W i m H →
      (J.stop i H ∧ Qd H) ∨ (J.go i H ∧ ∃ Nx : Hp → Prop, (∀ H', Nx H' → ∃ m', m' < m ∧ W (i + 1) m' H') ∧ ∀ x H', J.yld i H x H' → g x (wipe σ vs) H' fun σ2 H2 => wipe σ2 vs = wipe σ vs ∧ tt σ2 H2 fun b H3 =>
        if b = true then te σ2 H3 fun y H4 => ∃ acc, H4 D = some (.lst acc) ∧ acc.length < sizeLine ∧ Nx (upd H4 D (.lst (acc ++ [y]))) else Nx H3) := by
  have mD : ¬ Mu D := wl.new hD
  have up : ∀ {H : Hp} {o : HO}, Kp (wi Mc D) H (upd H D o) := kp_upd (.inr rfl)
  have wide : ∀ {H H' : Hp}, Kp Mc H H' → Kp (wi Mc D) H H' := fun k => k.wide fun b m => .inl m
  have wideU : ∀ {H H' : Hp}, Kp Mc H H' → Kp (wi Mu D) H H' := fun k => k.wide fun b m => .inl (hc b m)
  refine lc_it w (fun i H => ∃ xs, Kp (wi Mc D) H1 H ∧ H D = some (.lst xs) ∧ Dats (wi Mu D) H xs (acc i) ∧ xs.length ≤ i ∧ Z i H) ⟨[], up, upd_same, by rw [a0]; exact .nil, Nat.le_refl _, hZ _ _ _ z0⟩ (fun i H _ ⟨xs, k, _, _, _, z⟩ => hG i H k z) ?_ ?_
  · intro i x H H' hi ⟨xs, k, hx, r, l, z⟩ y
    refine hs i x H H' _ _ hi k ((wl.kp k).wi (by rw [hx]; exact fun z => by cases z)) (by rw [hx]; exact fun z => by cases z) z y (fun y H4 d k4 e4 dy ea z4 => ⟨xs, e4.trans hx, Nat.lt_of_lt_of_le (Nat.lt_of_le_of_lt l hi) (Nat.le_trans hn (by decide)), xs ++ [y], ?_, upd_same, ?_, ?_, hZ _ _ _ z4⟩) fun H3 k3 e3 ea z3 => ⟨xs, k.trans (wide k3), e3.trans hx, ?_, Nat.le_succ_of_le l, z3⟩
    · exact (k.trans (wide k4)).trans up
    · rw [ea]
      exact ((r.keep (wideU k4)).app (.cons dy .nil)).keep (kp_upd (.inr rfl))
    · rw [List.length_append, List.length_singleton]
      omega
    · rw [ea]
      exact r.keep (wideU k3)
  · intro H ⟨xs, k, hx, r, l, z⟩
    refine hd H xs ⟨fun b o m e => k.at_ b o (fun q => q.elim m fun q => ?_) e, k.there⟩ hx (r.less fun b m => .inl m) z mD
    rw [q, hD] at e
    cases e
end AG
namespace AG
open PySem PySem.Spec PyProof.Rows L2
/-! ### names, formulas -/
inductive O3 where
  | th | an | orr
def O3.w : O3 → Str
  | .th => "then"
  | .an => "and"
  | .orr => "or"
inductive Fm where
  | at (x : Str)
  | no
  | bi (o : O3) (a b : Fm)
def Fm.d : Fm → PyData
  | .at x => .tuple [.str "atom", .str x]
  | .no => .tuple [.str "false"]
  | .bi o a b => .tuple [.str o.w, a.d, b.d]
def Fm.deep : Fm → Nat
  | .at _ => 1
  | .no => 1
  | .bi _ a b => max a.deep b.deep + 1
def abc : Str := "abcdefghijklmnopqrstuvwxyz"
structure NameOk (x : Str) : Prop where
  lo : 1 ≤ x.length
  hi : x.length ≤ 6
  of : ∀ c ∈ x.cps.toList, c ∈ abc.cps.toList
def Fm.ok : Fm → Prop
  | .at x => NameOk x
  | .no => True
  | .bi _ a b => a.ok ∧ b.ok
theorem NameOk.size {x : Str} (h : NameOk x) : x.length ≤ sizeLine := Nat.le_trans h.hi (by decide)
theorem dats_bools {Mu : Mut1} {H : Hp} : ∀ {vs : List V} {bs : List Bool}, Dats Mu H vs (bs.map PyData.bool) → vs = bs.map V.bl
  | _, [], .nil => rfl
  | _, b :: r, .cons h t => by
    cases h
    rw [dats_bools t]
    rfl
/-- a list of so many True -/
theorem dats_trues {Mu : Mut1} {H : Hp} {vs : List V} {n : Nat} (h : Dats Mu H vs (List.replicate n (.bool true))) : vs = (List.replicate n true).map V.bl := by
  refine dats_bools (Mu := Mu) (H := H) ?_
  rw [List.map_replicate]
  exact h
theorem all_trues (n : Nat) : (List.replicate n true).all id = true := by
  induction n with
  | zero => rfl
  | succ n ih => rw [List.replicate_succ, List.all_cons, ih] <;> rfl
end AG
namespace AG
open PySem PySem.Spec PyProof.Rows L2
/-! ### commands -/
/-- a command without blocks -/
inductive Sc where
  | exg
  | exn
  | intro (x : Str)
  | recall (x : Str)
  deriving DecidableEq
def Sc.w : Sc → Str
  | .exg => "exact"
  | .exn => "exact"
  | .intro _ => "intro"
  | .recall _ => "recall"
def Sc.a : Sc → PyData
  | .exg => .tuple [.str "goal"]
  | .exn => .tuple [.str "newest", .int 1]
  | .intro x => .str x
  | .recall x => .str x
def Sc.d (s : Sc) : PyData := .tuple [.str s.w, s.a]
def Sc.ok : Sc → Prop
  | .intro x => NameOk x
  | .recall x => NameOk x
  | _ => True
def Sc.rcl : Sc → List Str
  | .recall x => [x]
  | _ => []
/-- a command -/
inductive Cm where
  | one (s : Sc)
  | att (s : Sc)
  deriving DecidableEq
def Cm.w : Cm → Str
  | .one s => s.w
  | .att _ => "try"
/-- as the law writes it -/
def Cm.law : Cm → PyData
  | .one s => s.d
  | .att s => .tuple [.str "try", .list [s.d]]
/-- as it is held -/
def Cm.chk : Cm → PyData
  | .one s => s.d
  | .att s => .tuple [.str "try", .tuple [s.d]]
def Cm.s : Cm → Sc
  | .one s => s
  | .att s => s
def Cm.ok (c : Cm) : Prop := c.s.ok
def Cm.lv : Cm → Nat
  | .one _ => 1
  | .att _ => 2
def Cm.rcl (c : Cm) : List Str := c.s.rcl
/-- its blocks, as the law writes them, as they are held -/
def Cm.bl : Cm → List PyData
  | .one _ => []
  | .att s => [.list [s.d]]
def Cm.bc : Cm → List PyData
  | .one _ => []
  | .att s => [.tuple [s.d]]
/-- a list of commands, all with their paths; n: the place of the first -/
def pathD (p : List Int) : PyData := .tuple (p.map PyData.int)
def pairD (p : List Int) (d : PyData) : PyData := .tuple [pathD p, d]
def pairC (p : List Int) (i : Int) (c : Cm) : List PyData := pairD (p ++ [i]) c.chk :: (match c with
  | .one _ => []
  | .att s => [pairD (p ++ [i] ++ [0] ++ [0]) s.d])
def pairsC (p : List Int) : Int → List Cm → List PyData
  | _, [] => []
  | i, c :: r => pairC p i c ++ pairsC p (i + 1) r
/-- .. as the law's own walk gives them -/
def pairL (p : List Int) (i : Int) (c : Cm) : List PyData := pairD (p ++ [i]) c.law :: (match c with
  | .one _ => []
  | .att s => [pairD (p ++ [i] ++ [0] ++ [0]) s.d])
def pairsL (p : List Int) : Int → List Cm → List PyData
  | _, [] => []
  | i, c :: r => pairL p i c ++ pairsL p (i + 1) r
def recs (cs : List Cm) : List Str := cs.flatMap Cm.rcl
theorem pairsC_app (p : List Int) : ∀ (i : Int) (a b : List Cm), pairsC p i (a ++ b) = pairsC p i a ++ pairsC p (i + a.length) b
  | i, [], b => by simp [pairsC]
  | i, c :: r, b => by
    rw [List.cons_append, pairsC, pairsC, pairsC_app p (i + 1) r b, List.append_assoc]
    congr 3
    simp only [List.length_cons]
    omega
theorem pairsL_app (p : List Int) : ∀ (i : Int) (a b : List Cm), pairsL p i (a ++ b) = pairsL p i a ++ pairsL p (i + a.length) b
  | i, [], b => by simp [pairsL]
  | i, c :: r, b => by
    rw [List.cons_append, pairsL, pairsL, pairsL_app p (i + 1) r b, List.append_assoc]
    congr 3
    simp only [List.length_cons]
    omega
theorem take_succ {α : Type} {l : List α} {i : Nat} {x : α} (h : l[i]? = some x) : l.take (i + 1) = l.take i ++ [x] := by
  rw [List.take_succ, h]
  rfl
theorem pairC_len (p : List Int) (i : Int) (c : Cm) : (pairC p i c).length ≤ 2 := by
  cases c <;> simp [pairC]
theorem pairL_len (p : List Int) (i : Int) (c : Cm) : (pairL p i c).length ≤ 2 := by
  cases c <;> simp [pairL]
theorem pairsC_len (p : List Int) : ∀ (i : Int) (cs : List Cm), (pairsC p i cs).length ≤ 2 * cs.length
  | _, [] => Nat.le_refl _
  | i, c :: r => by
    rw [pairsC, List.length_append, List.length_cons]
    have := pairC_len p i c
    have := pairsC_len p (i + 1) r
    omega
theorem pairsL_len (p : List Int) : ∀ (i : Int) (cs : List Cm), (pairsL p i cs).length ≤ 2 * cs.length
  | _, [] => Nat.le_refl _
  | i, c :: r => by
    rw [pairsL, List.length_append, List.length_cons]
    have := pairL_len p i c
    have := pairsL_len p (i + 1) r
    omega
theorem dat_ints {Mu : Mut1} {H : Hp} : ∀ (p : List Int), Dats Mu H (p.map V.int) (p.map PyData.int)
  | [] => .nil
  | i :: r => .cons (.int i) (dat_ints r)
theorem dats_ints {Mu : Mut1} {H : Hp} : ∀ {vs : List V} {p : List Int}, Dats Mu H vs (p.map PyData.int) → vs = p.map V.int
  | _, [], .nil => rfl
  | _, i :: r, .cons h t => by
    rw [h.asInt, dats_ints t]
    rfl
theorem Sc.tag (s : Sc) : s.w = "exact" ∨ s.w = "intro" ∨ s.w = "recall" := by
  cases s <;> simp [Sc.w]
end AG
namespace AG
open PySem PySem.Spec PyProof.Rows L2
/-! ### enumerate(a tuple) -/
theorem enumNewT (l : Addr) (items : Array Value) :
    Meets (Builtin.«enumerate.__new__» ⟨[.type "enumerate", .ref l], []⟩) (fun _ R s => s.heap.IsTuple l items ∧
      R (.ok (.ret (.ref (s.heap.push { cls := .type "tuple_iterator", data := .fields #[.ref l, .int 0 0] }).objs.size)))
        { s with heap := (s.heap.push { cls := .type "tuple_iterator", data := .fields #[.ref l, .int 0 0] }).push { cls := .type "enumerate", data := .fields #[.none, .bool false, .ref s.heap.objs.size, rawInt 0, .none, .none] } }) :=
  .of_wp fun prog w A R s h => by
    obtain ⟨hp, g, d, tk, os⟩ := s
    obtain ⟨hl, h⟩ := h
    have subE := sub_enumerate
    have q1 : ∀ {A' : Around} {E : Value → Shared → Prop} {Q : Value → Shared → Prop}, Q (.ref hp.objs.size) ⟨hp.push { cls := .type "tuple_iterator", data := .fields #[.ref l, .int 0 0] }, g, d, tk, os⟩ → wpAny (model prog w) A' (pyIter (.ref l)) Q E ⟨hp, g, d, tk, os⟩ :=
      fun q => wpAny_pyIter_tuple hl q
    wp_walk using q1
    refine wpAny_stack_any fun st => wpAny_pure ?_
    split
    · rename_i c _ _ _ _ _
      cases (c == Value.type "enumerate") <;>
      · wp_walk using q1
        exact ⟨_, rfl, h⟩
    · wp_walk using q1
      exact ⟨_, rfl, h⟩
theorem callEnumT {prog : Program} {w : World} {A : Around} {E : Value → Shared → Prop} {s : Shared} {l : Addr} {items : Array Value} {Q : Value → Shared → Prop} (hL : s.heap.IsTuple l items)
    (h : ∀ h', IsEnum h' (s.heap.objs.size + 1) s.heap.objs.size 0 .none → h'.IsTupleIter s.heap.objs.size l 0 → (∀ b o, s.heap.get? b = some o → h'.get? b = some o) → Q (.ref (s.heap.objs.size + 1)) { s with heap := h' }) :
    wpAny (model prog w) A (call (.type "enumerate") [.ref l]) Q E s := by
  refine callType_new F.called_enumerate (by decide) (F.typeCall_enumerate_1 _) (F.newCall_enumerate_1 _) (fun obj => F.args_object_init_2 obj _) F.entry_enumerate_new (enumNewT l items) ⟨hL, ?_⟩
  have size1 : (s.heap.push { cls := .type "tuple_iterator", data := .fields #[.ref l, .int 0 0] }).objs.size = s.heap.objs.size + 1 := Heap.size_push ..
  show _ ∧ _
  rw [size1]
  have there : IsEnum ((s.heap.push { cls := .type "tuple_iterator", data := .fields #[.ref l, .int 0 0] }).push { cls := .type "enumerate", data := .fields #[.none, .bool false, .ref s.heap.objs.size, rawInt 0, .none, .none] }) (s.heap.objs.size + 1) s.heap.objs.size 0 .none := by
    have z := Heap.get?_push_size (s.heap.push { cls := .type "tuple_iterator", data := .fields #[.ref l, .int 0 0] }) (o := { cls := .type "enumerate", data := .fields #[.none, .bool false, .ref s.heap.objs.size, rawInt 0, .none, .none] }) rfl
    rw [size1] at z
    exact z
  exact ⟨⟨_, there, rfl⟩, h _ there ⟨_, Heap.get?_push_of_some _ (Heap.get?_push_size _ rfl), rfl, rfl⟩ fun b o x => Heap.get?_push_of_some _ (Heap.get?_push_of_some _ x)⟩
def IteT (K : PySem.W.Frag) (a : Addr) : It :=
  ⟨fun i H => ∃ (xs : List V) (x : V), SqT K H a xs ∧ xs[i]? = some x, fun i H v H' => ∃ T x, v = .ref T ∧ H T = none ∧ H' = upd H T (.tup [.int (i : Nat), x]) ∧ ∀ xs, SqT K H a xs → xs[i]? = some x, fun i H => ∃ xs : List V, SqT K H a xs ∧ xs.length = i⟩
theorem tup_ne {h : Heap} {a b : Addr} {xs : Array Value} {o : Obj} (p : h.IsTuple a xs) (q : h.get? b = some o) (c : o.cls ≠ .type "tuple") : a ≠ b := fun z => by
  obtain ⟨u, e, d, _⟩ := p
  rw [z, q] at e
  cases e
  exact c d
theorem turnEnumT {P : Program} {w : World} {K : PySem.W.Frag} {elts : List Expr} {kk : Nat} {tpos : Pos} (a e it : Addr) :
    Turn P w K (.Tuple elts kk tpos) (IteT K a) [e, it] e (fun i h => (∃ old, IsEnum h e it ((i : Nat) : Int) old) ∧ h.IsTupleIter it a i ∧ e ≠ it) where
  mem := by simp
  obj := fun i h st b hb => by
    obtain ⟨⟨old, he⟩, ⟨o, ho, hc, hd⟩, _⟩ := st
    rcases (show b = e ∨ b = it by simpa using hb) with z | z
    · rw [z]
      exact ⟨_, he, fun v q => nomatch q⟩
    · rw [z]
      exact ⟨o, ho, fun v q => by rw [hd] at q; cases q⟩
  keep := fun i h h' st k => ⟨⟨_, k e (by simp) _ st.1.choose_spec⟩, st.2.1.at fun o q => k it (by simp) o q, st.2.2⟩
  item := by
    intro X hP hw hK hc i pins s σ H E I hf st hg
    subst hP hw hK
    obtain ⟨⟨old, he⟩, hit, hne⟩ := st
    obtain ⟨xs, x, hq, hx⟩ := hg
    obtain ⟨its, rv, p, hz⟩ := I.tuple hq
    have p : s.heap.IsTuple a its.toArray := p
    obtain ⟨u, hu, ru⟩ := rv.get hx
    obtain ⟨oi, ei, ci, di⟩ := id hit
    have lt1 : e < s.heap.objs.size := Heap.lt_size he
    have lt2 : it < s.heap.objs.size := Heap.lt_size ei
    have lt3 : i < its.length := (List.getElem?_eq_some_iff.mp hu).1
    have hai : a ≠ it := tup_ne p ei (by rw [ci]; decide)
    have hae : a ≠ e := tup_ne p he (fun z => by injection z with z; exact absurd z (by decide))
    refine wpAny_pyNext_enum_itemD (Draws.tuple (A := X.A.in1) (prog := X.prog) (w := X.w) (I.ok.hd hc) it a hai its.toArray) he ⟨hit, p⟩ (by simpa using lt3) hne (fun z => ?_) fun y h' tk hy ho st' hT hsz hk => ?_
    · rcases List.mem_cons.mp z with z | z
      · exact hne z
      · exact hae (List.mem_singleton.mp z).symm
    · have ey : y = u := by
        rw [List.getElem?_toArray, hu] at hy
        exact (Option.some.inj hy).symm
      subst ey
      refine ⟨_, rfl, wpAny_letOwnedTupleGo_enum (s := { s with heap := h', toks := tk + 1 }) ho fun h2 he2 sb => ?_⟩
      have hT2 : h2.get? s.heap.objs.size = some { cls := .type "tuple", data := .seq #[.int i tk, y] } := (sb.2 _ (Nat.ne_of_gt lt1)).trans hT
      have new : ObjOk X.prog X.w (upd H s.heap.objs.size (.tup [.int (i : Nat), x])) h2 s.heap.objs.size (.tup [.int (i : Nat), x]) := ⟨by show 2 ≤ sizeLine; decide, [.int i tk, y], .cons ⟨_, rfl⟩ (.cons ru .nil), ⟨_, hT2, rfl, _, rfl⟩⟩
      have I1 : Inv X pins σ (upd H s.heap.objs.size (.tup [.int (i : Nat), x])) { s with heap := h2, toks := tk + 1 } :=
        I.turnedNew (t' := tk + 1) (ch := [e, it]) (fun b ob hb q => (sb.2 b (fun z => hb (by simp [z]))).trans (hk b ob (fun z => hb (by simp [z])) (fun z => hb (by simp [z])) q)) hf (Nat.le_refl _) new
      refine ⟨.ref s.heap.objs.size, _, I1, rfl, ⟨_, x, rfl, I.hok.fresh (Nat.le_refl _), rfl, fun ys hy => by rw [I.tuple_inj hy hq]; exact hx⟩, ⟨⟨y, ?_⟩, st'.1.at fun o q => (sb.2 it (Ne.symm hne)).trans q, hne⟩, fun b hb => ?_⟩
      · rw [show ((i + 1 : Nat) : Int) = (i : Int) + 1 by omega]
        exact he2
      · have hb2 : b < s.heap.objs.size := by
          rcases (show b = e ∨ b = it by simpa using hb) with z | z
          · rw [z]
            exact lt1
          · rw [z]
            exact lt2
        rw [upd_ne (Nat.ne_of_lt hb2)]
        exact (hf b hb).1
  done := by
    intro X hP hw hK hc i pins s σ H E I hf st hg
    subst hP hw hK
    obtain ⟨⟨old, he⟩, hit, hne⟩ := st
    obtain ⟨xs, hq, hx⟩ := hg
    obtain ⟨its, rv, p, hz⟩ := I.tuple hq
    have p : s.heap.IsTuple a its.toArray := p
    obtain ⟨f0, f1, f2, f3, f4, f5⟩ := hf it (by simp)
    obtain ⟨oi, ei, ci, di⟩ := id hit
    have hai : a ≠ it := tup_ne p ei (by rw [ci]; decide)
    have hl := rv.length
    have ei : i = its.toArray.size := by
      simp
      omega
    subst ei
    have D := Draws.tuple (A := X.A.in1) (prog := X.prog) (w := X.w) (I.ok.hd hc) it a hai its.toArray
    exact wpAny_pyNext_enum_endD D he ⟨hit, p⟩ fun h' eb => ⟨rfl, I.turned (t' := s.toks) (fun b o hb q => eb b o hb q) f0 f1 f3 f4 f5⟩
  self := fun A i s Q E st h => wpAny_pyIter_enum st.1.choose_spec h
def iEnumT (K : PySem.W.Frag) (ta : TA) : TI := fun σ H R => ta σ H fun vs H1 => ∃ a xs, vs = [.ref a] ∧ SqT K H1 a xs ∧ R (IteT K a) H1
theorem piEnumT {X : Cx} {e : Expr} {ta : TA} {p pos tpos : Pos} {elts : List Expr} {kk : Nat} (hm : X.mg "enumerate" = none) (ha : PA X [e] ta) (hg : Gl X "enumerate" := by rfl) (hs : starEach [e] X.env = [(false, eval e X.env)] := by rfl) :
    PI X (.Tuple elts kk tpos) (.Call (.Name "enumerate" p) [e] [] pos) (iEnumT X.K ta) := by
  refine ⟨fun pins s σ H R I h => ?_⟩
  refine Call_ (ld_blt I hg hm boot_enumerate (PyProof.Rows.callWith_type1 (thn (ha.run pos pins s σ H _ I h) fun us s1 ⟨vs, H1, I1, r1, q1⟩ => ?_) hs rfl))
  obtain ⟨a, xs, rfl, hq, q⟩ := q1
  obtain ⟨u, rfl, r⟩ := vals1 r1
  cases r
  obtain ⟨its, rv, pT, hz⟩ := I1.tuple hq
  refine callEnumT (show s1.heap.IsTuple a its.toArray from pT) fun h' he hit hk => wpAny_pyIter_enum he ?_
  have I2 : Inv X pins σ H1 { s1 with heap := h' } := I1.kept (t' := s1.toks) hk
  refine ⟨s1.heap.objs.size + 1, [s1.heap.objs.size + 1, s1.heap.objs.size], _, _, H1, rfl, I2, turnEnumT a (s1.heap.objs.size + 1) s1.heap.objs.size, ⟨⟨.none, he⟩, hit, Nat.succ_ne_self _⟩, fun b hb => ?_, q⟩
  have le : s1.heap.objs.size ≤ b := by
    rcases (show b = s1.heap.objs.size + 1 ∨ b = s1.heap.objs.size by simpa using hb) with z | z
    · rw [z]
      exact Nat.le_add_right _ _
    · rw [z]
      exact Nat.le_refl _
  exact I1.fpOk le (I1.hok.fresh le)
theorem walk_enumT {K : PySem.W.Frag} {a : Addr} {xs : List V} : Walk (IteT K a) xs.length (fun H => SqT K H a xs) (YPair (fun i => some (.int (i : Nat))) (fun i => xs[i]?)) := by
  refine ⟨fun i _ hi q => ⟨xs, xs[i], q, by simp [hi]⟩, fun _ q => ⟨xs, q, rfl⟩, fun i H v H' _ q y => ?_⟩
  obtain ⟨T, x, h1, h2, h3, h4⟩ := y
  exact ⟨T, .int (i : Nat), x, h1, h2, h3, rfl, h4 xs q⟩
/-! ### calls by data -/
def rListOf : List V → Hp → VK → Prop := fun vs H Q => match vs with
  | [v] => ∃ Mu d, Wl Mu H ∧ Dat Mu H v d ∧ (kdOf d = .list ∨ kdOf d = .tuple) ∧ ∀ p H', Same H H' → Dat Mu H' (.ref p) (.list (itemsD d)) → H p = none → Q (.ref p) H'
  | _ => False
theorem cListOf {X : Cx} : CallR X (.type "list") rListOf := callR_imp call_list_of fun xs H Q q => by
  match xs, q with
  | [v], ⟨Mu, d, wl, dv, kd, q⟩ =>
    cases dv with
    | lst m h r => exact ⟨_, _, rfl, .inl (SqL.of h), fun p n => q p _ (same_new n) (.lst (wl.new n) upd_same (r.same (same_new n))) n⟩
    | tup m h r => exact ⟨_, _, rfl, .inr (SqT.of h), fun p n => q p _ (same_new n) (.lst (wl.new n) upd_same (r.same (same_new n))) n⟩
    | _ => rcases kd with kd | kd <;> cases kd
def rTupOf (K : PySem.W.Frag) : List V → Hp → VK → Prop := fun vs H Q => match vs with
  | [v] => ∃ Mu xs ds a, Wl Mu H ∧ v = .ref a ∧ SqL K H a xs ∧ Dats Mu H xs ds ∧ ∀ p H', Same H H' → Dat Mu H' (.ref p) (.tuple ds) → H p = none → Q (.ref p) H'
  | _ => False
theorem cTupOf {X : Cx} : CallR X (.type "tuple") (rTupOf X.K) := callR_imp call_tuple_of fun xs H Q q => by
  match xs, q with
  | [v], ⟨Mu, xs, ds, a, wl, e, h, r, q⟩ =>
    subst e
    exact ⟨a, xs, rfl, .inl ⟨h, fun p n => q p _ (same_new n) (.tup (wl.new n) upd_same (r.same (same_new n))) n⟩⟩
/-! ### what is not reached -/
def tNo : TE := fun _ _ _ => False
theorem pe_no {X : Cx} {e : Expr} : PE X e tNo := ⟨fun _ _ _ _ _ _ h => h.elim⟩
def tNoT : TT := fun _ _ _ => False
theorem pt_no {X : Cx} {e : Expr} : PT X e tNoT := ⟨fun _ _ _ _ _ _ h => h.elim⟩
theorem pw_no {X : Cx} {e : Expr} : PW X e tNoT := ⟨fun _ _ _ _ _ _ _ h => h.elim⟩
/-! ### d.get(x, y) of a written dict with text keys -/
def tKGet (K : PySem.W.Frag) (w : World) (td ty tx : TE) : TE := fun σ H Q => td σ H fun x H1 => ∃ a es n, x = .ref a ∧ KDict K w a es n ∧ ty σ H1 fun y H2 => tx σ H2 fun z H3 =>
  ∃ (k : Str) (r : Option Value) (o : Option V), y = .str k ∧ PySem.W.nsIn K a k = some r ∧ RelO o r ∧ Q (o.getD z) H3
theorem pe_kget {X : Cx} {o e f : Expr} {apos cpos : Pos} {td ty tx : TE} (ho : PE X o td) (he : PE X e ty) (hf : PE X f tx) (m : M2 X o "get" apos e f cpos) : PE X (.Call (.Attribute o "get" apos) [e, f] [] cpos) (tKGet X.K X.w td ty tx) := by
  refine ⟨fun pins s σ H Q I h => ?_⟩
  refine wpAny_Call_method m.base m.few m.line PySem.F.plainAttrs_dict PySem.F.slot_dict_get PySem.F.type_dict_get (thn (ho.run pins s σ H _ I h) fun u s1 ⟨x, H1, I1, rx, a, es, n, ex, D, q1⟩ => ?_)
  subst ex
  cases rx
  have hm1 := PySem.W.mapOf_K (prog := X.prog) (w := X.w) I1.kIn D.at_ D.lit
  refine ⟨hm1.typeIs, fun b q => ?_, ?_⟩
  · cases q
    exact ⟨_, I1.kIn a _ D.at_, rfl⟩
  rw [m.trees]
  refine Calls.callWith_builtin rfl (Calls.evalArgs_plain (Calls.spliced_cons (thn (he.run pins s1 σ H1 _ I1 q1) fun iv s2 ⟨y, H2, I2, ry, q2⟩ =>
    Calls.spliced_cons (thn (hf.run pins s2 σ H2 _ I2 q2) fun fv s3 ⟨z, H3, I3, rz, k, r, ov, ey, l, ro, q3⟩ => Calls.spliced_nil ?_))))
  subst ey
  obtain ⟨t, rfl⟩ := (show ∃ t, iv = Value.str k t from ry)
  refine call_meetsIn PySem.F.slot_dict_get (PySem.W.mapOf_K (prog := X.prog) (w := X.w) I3.kIn D.at_ D.lit).typeIs PySem.F.entry_dict_get (PySem.F.args_dict_get_3 _ _ _) (meets_dict_get_default (strKind X.prog X.w) a (strKind_is X.prog X.w k t) D.low fv) ⟨_, PySem.W.mapOf_K I3.kIn D.at_ D.lit, ?_⟩
  rw [PySem.W.find_K D.at_ l]
  refine ⟨_, H3, I3.tok _, ?_, q3⟩
  exact ro.getD rz
end AG
namespace AG
open PySem PySem.Spec PyProof.Rows L2
theorem kp_new {Mc : Mut1} {H0 H : Hp} {F : Addr} {o : HO} (n : H0 F = none) (k : Kp (wi Mc F) (upd H0 F o) H) : Kp Mc H0 H := ⟨fun b u m e => by
  have ne := ne_of_none e n
  exact k.at_ b u (fun z => z.elim m ne) (by rw [upd_ne ne]; exact e), fun b h => k.there b (by
    by_cases z : b = F
    · rw [z, upd_same]
      exact fun z => by cases z
    · rw [upd_ne z]
      exact h)⟩
theorem wi_less {Mu : Mut1} {F : Addr} : ∀ b, Mu b → wi Mu F b := fun _ m => .inl m
theorem Kp.wiOf {Mc : Mut1} {H H' : Hp} {F : Addr} (k : Kp Mc H H') : Kp (wi Mc F) H H' := k.wide wi_less
theorem Kp.ofSame {Mc : Mut1} {H H' : Hp} (s : Same H H') : Kp Mc H H' := .of s
/-- a loop that adds to the list at F: acc i is what stands there ahead of turn i -/
theorem for_dat {J : It} {n : Nat} {G : Hp → Prop} {Y : Nat → Hp → V → Hp → Prop} (w : Walk J n G Y) {Mc Mu : Mut1} (hc : ∀ b, Mc b → Mu b) {g : TG} {tb : TS} {D : Ends} {σ : L2.St} {H1 : Hp} {F : Addr} {xs0 : List V} (wl : Wl Mu H1) (hF : H1 F = some (.lst xs0))
    (acc : Nat → List PyData) (r0 : Dats (wi Mu F) H1 xs0 (acc 0)) (S : L2.St → Prop) (s0 : S σ) (hG : ∀ H, Kp (wi Mc F) H1 H → G H)
    (hs : ∀ i x σ H H' xs (nx : L2.St → Hp → Prop), i < n → S σ → Kp (wi Mc F) H1 H → Wl (wi Mu F) H → H F = some (.lst xs) → Dats (wi Mu F) H xs (acc i) → Y i H x H' →
      (∀ σ2 H2 ys, S σ2 → Kp (wi Mc F) H H2 → H2 F = some (.lst ys) → Dats (wi Mu F) H2 ys (acc (i + 1)) → nx σ2 H2) → g x σ H' fun σ2 H2 => tb { D with nx := nx, ct := nx, bk := D.nx } σ2 H2)
    (hd : ∀ σ H xs, S σ → Kp (wi Mc F) H1 H → H F = some (.lst xs) → Dats (wi Mu F) H xs (acc n) → D.nx σ H) :
    ∃ W : Nat → Nat → L2.St → Hp → Prop, (∃ m, W 0 m σ H1) ∧ ∀ i m σ H, W i m σ H →
      (J.stop i H ∧ D.nx σ H) ∨ (J.go i H ∧ ∃ N : L2.St → Hp → Prop, (∀ σ' H', N σ' H' → ∃ m', m' < m ∧ W (i + 1) m' σ' H') ∧ ∀ x H', J.yld i H x H' → g x σ H' fun σ2 H2 => tb { D with nx := N, ct := N, bk := D.nx } σ2 H2) := by
  refine for_it w (fun i σ H => ∃ xs, S σ ∧ Kp (wi Mc F) H1 H ∧ H F = some (.lst xs) ∧ Dats (wi Mu F) H xs (acc i)) ⟨xs0, s0, .refl _, hF, r0⟩ (fun i σ H _ ⟨_, _, k, _⟩ => hG H k) ?_ fun σ H ⟨xs, s, k, h, r⟩ => hd σ H xs s k h r
  intro i x σ H H' hi ⟨xs, s, k, h, r⟩ y
  exact hs i x σ H H' xs _ hi s k ((wl.kp k).wi (by rw [h]; exact fun z => by cases z)) h r y fun σ2 H2 ys s2 k2 h2 r2 => ⟨ys, s2, k.trans k2, h2, r2⟩
end AG
namespace AG
open PySem PySem.Spec PyProof.Rows L2
abbrev s_is_number : Stmt := top 26
abbrev s_is_listed : Stmt := top 27
abbrev s_is_name : Stmt := top 28
abbrev s_is_leaf : Stmt := top 29
abbrev s_is_form : Stmt := top 30
abbrev s_is_formula : Stmt := top 31
abbrev s_chained : Stmt := top 38
abbrev s_is_row : Stmt := top 42
abbrev s_has_word : Stmt := top 54
abbrev s_is_like_reference : Stmt := top 55
abbrev s_is_reference : Stmt := top 56
abbrev s_blocks_of : Stmt := top 59
abbrev s_is_right : Stmt := top 60
abbrev s_checked : Stmt := top 61
abbrev s_pairs_in : Stmt := top 62
abbrev s_statement : Stmt := top 70
abbrev s_need_formula : Stmt := top 73
abbrev s_is_deed : Stmt := top 81
abbrev s_rests_on : Stmt := top 82
abbrev s_need_recalled : Stmt := top 83
abbrev s_claim_in : Stmt := top 84
abbrev s_behind : Stmt := top 85
abbrev s_users_in : Stmt := top 86
abbrev s__law_bag : Stmt := top 90
abbrev s__law_pull : Stmt := top 91
abbrev s__law_any : Stmt := top 92
abbrev s__law_like : Stmt := top 93
abbrev s__law_fields : Stmt := top 94
abbrev s__law_try : Stmt := top 95
abbrev s__law_names : Stmt := top 96
abbrev s__law_form : Stmt := top 97
abbrev s__law_rows : Stmt := top 98
abbrev s__law_blocks : Stmt := top 99
abbrev s__law_paths : Stmt := top 100
abbrev s__law_unlike : Stmt := top 101
abbrev s__law_entries : Stmt := top 102
abbrev s__law_deed : Stmt := top 103
abbrev s__law_made_deed : Stmt := top 104
abbrev s__law_recalled : Stmt := top 105
abbrev s__law_place : Stmt := top 106
abbrev s__law_rests : Stmt := top 107
abbrev s__law_due : Stmt := top 108
abbrev s__law_states : Stmt := top 109
abbrev s__law_known : Stmt := top 110
abbrev s__law_shelf_is : Stmt := top 111
abbrev s__law_applier : Stmt := top 112
abbrev s_law : Stmt := top 113
abbrev s_Context___init__ : Stmt := inClass (top 45) 1
abbrev s_Context_rows : Stmt := inClass (top 45) 4
abbrev s_Context___len__ : Stmt := inClass (top 45) 14
abbrev s_Context___eq__ : Stmt := inClass (top 45) 15
abbrev s_Script___init__ : Stmt := inClass (top 67) 1
abbrev s_Script_walk : Stmt := inClass (top 67) 5
abbrev s_Script_recalled : Stmt := inClass (top 67) 7
abbrev s_Script___eq__ : Stmt := inClass (top 67) 11
abbrev s_Claim___init__ : Stmt := inClass (top 77) 0
abbrev s_Claim_script : Stmt := inClass (top 77) 1
abbrev s_Claim_context : Stmt := inClass (top 77) 2
abbrev s_Claim_goal : Stmt := inClass (top 77) 3
abbrev s_Claim_facts : Stmt := inClass (top 77) 4
abbrev s_Changing___init__ : Stmt := inClass (top 87) 0
abbrev s_Changing___enter__ : Stmt := inClass (top 87) 1
abbrev s_Changing___exit__ : Stmt := inClass (top 87) 2
abbrev s_Shelf___init__ : Stmt := inClass (top 88) 1
abbrev s_Shelf_need_limit : Stmt := inClass (top 88) 2
abbrev s_Shelf_busy : Stmt := inClass (top 88) 6
abbrev s_Shelf_apply : Stmt := inClass (top 88) 8
abbrev s_Shelf_go_to : Stmt := inClass (top 88) 9
abbrev s_Shelf_undo : Stmt := inClass (top 88) 10
abbrev s_Shelf_redo : Stmt := inClass (top 88) 11
abbrev s_Shelf_history : Stmt := inClass (top 88) 12
abbrev s_Shelf_need : Stmt := inClass (top 88) 13
abbrev s_Shelf_names : Stmt := inClass (top 88) 14
abbrev s_Shelf_claim_of : Stmt := inClass (top 88) 15
abbrev s_Shelf_statement : Stmt := inClass (top 88) 16
abbrev s_Shelf_users : Stmt := inClass (top 88) 17
abbrev s_Shelf_rests : Stmt := inClass (top 88) 18
abbrev s_Shelf___contains__ : Stmt := inClass (top 88) 23
abbrev s_Shelf___len__ : Stmt := inClass (top 88) 24
abbrev s_Shelf___repr__ : Stmt := inClass (top 88) 26
abbrev s_Circular___init__ : Stmt := inClass (top 12) 0
abbrev s_NameInUse___init__ : Stmt := inClass (top 13) 0
abbrev s_Full___init__ : Stmt := inClass (top 14) 0
abbrev s_UnknownName___init__ : Stmt := inClass (top 15) 0
abbrev s_NothingLeft___init__ : Stmt := inClass (top 16) 0
/-- where the classes stand -/
structure Cs where
  Context : Addr
  Script : Addr
  Claim : Addr
  Changing : Addr
  Shelf : Addr
  Circular : Addr
  NameInUse : Addr
  Full : Addr
  UnknownName : Addr
  NothingLeft : Addr
  GroundError : Addr
  Missing : Addr
/-- the class x of the module stands at C -/
structure Own (K : PySem.W.Frag) (mg : Str → Option Value) (x : Str) (C : Addr) : Prop where
  at_ : mg x = some (.ref C)
  cl : Cls K C
  kc : PySem.W.findIn K (.ref C) "__class__" = some (some (.builtin "object.__class__"))
  kg : PySem.W.specialIn K (.builtin "object.__class__") "__get__" = some (some (.builtin "getset_descriptor.__get__"))
  kt : PySem.W.takesIn K (.builtin "object.__class__") = some true
  mro : PySem.W.mroIn K C (.type "object") = some true
  me : PySem.W.kitOne K (.ref C) (.ref C) = some true
  kp : PySem.W.keepIn K (.ref C) = true
/-- its method m is the def st -/
structure MethD (K : PySem.W.Frag) (C : Addr) (m qual : Str) (st : Stmt) (dvs : List V) (kws : List (Str × V)) : Prop where
  ex : ∃ (f : Addr) (fd : FuncData), Meth K C m f ∧ FunD K m qual (defArgs st) (defBody st) (defScope st) dvs kws f fd
/-- it is made by the def st -/
structure MkD (K : PySem.W.Frag) (C : Addr) (qual : Str) (st : Stmt) (dvs : List V) (kws : List (Str × V)) : Prop where
  ex : ∃ (f : Addr) (fd : FuncData), Mk K C f ∧ FunD K "__init__" qual (defArgs st) (defBody st) (defScope st) dvs kws f fd
/-- its property m reads by the def st -/
structure PropD (K : PySem.W.Frag) (C : Addr) (m qual : Str) (st : Stmt) : Prop where
  ex : ∃ (p f : Addr) (fd : FuncData), PropOf K C m p f ∧ FunD K m qual (defArgs st) (defBody st) (defScope st) [] [] f fd
/-- the written dict x holds tab -/
structure KTb (w : World) (K : PySem.W.Frag) (mg : Str → Option Value) (x : Str) (tab : List (Str × V)) : Prop where
  ex : ∃ (a : Addr) (es : Array DictEntry) (n : Nat), mg x = some (.ref a) ∧ KDict K w a es n ∧ ∀ p ∈ tab, ∃ u, PySem.W.nsIn K a p.1 = some (some u) ∧ RelV p.2 u
structure Txt (w : World) (K : PySem.W.Frag) (mg : Str → Option Value) (c : Cs) : Prop where
  n_isinstance : mg "isinstance" = none
  n_len : mg "len" = none
  n_int : mg "int" = none
  n_str : mg "str" = none
  n_bool : mg "bool" = none
  n_list : mg "list" = none
  n_tuple : mg "tuple" = none
  n_dict : mg "dict" = none
  n_all : mg "all" = none
  n_sorted : mg "sorted" = none
  n_enumerate : mg "enumerate" = none
  n_range : mg "range" = none
  n_repr : mg "repr" = none
  n_zip : mg "zip" = none
  n_max : mg "max" = none
  n_super : mg "super" = none
  k_MOST_LETTERS : Cst mg "MOST_LETTERS" (.int 6)
  k_MOST_DEEP : Cst mg "MOST_DEEP" (.int 10)
  k_MOST_ROWS : Cst mg "MOST_ROWS" (.int 40)
  k_MOST_COMMANDS : Cst mg "MOST_COMMANDS" (.int 16)
  k_MOST_NESTED : Cst mg "MOST_NESTED" (.int 3)
  k_MOST_TURNS : Cst mg "MOST_TURNS" (.int 3)
  k_MOST_PLACE : Cst mg "MOST_PLACE" (.int 4)
  k_MOST_OWN : Cst mg "MOST_OWN" (.int 8)
  k_MOST_ENTRIES : Cst mg "MOST_ENTRIES" (.int 20)
  k_LETTERS : Cst mg "LETTERS" (.str abc)
  k_PAIRS : ∃ a, Cst mg "PAIRS" (.ref a) ∧ ∀ H, SqT K H a [.str "then", .str "and", .str "or"]
  t_SIZES_scripts : KTb w K mg "SIZES_scripts" [("exact", .int 2), ("intro", .int 2), ("recall", .int 2), ("try", .int 2)]
  t_REFERENCES : KTb w K mg "REFERENCES" [("goal", .int 1), ("newest", .int 2)]
  t_SIZES_shelf : KTb w K mg "SIZES_shelf" [("fact", .int 5), ("script", .int 3), ("drop", .int 2)]
  d_is_number : At K mg "is_number" s_is_number
  d_is_listed : At K mg "is_listed" s_is_listed
  d_is_name : At K mg "is_name" s_is_name
  d_is_leaf : At K mg "is_leaf" s_is_leaf
  d_is_form : At K mg "is_form" s_is_form
  d_is_formula : At K mg "is_formula" s_is_formula
  d_chained : At K mg "chained" s_chained
  d_is_row : At K mg "is_row" s_is_row
  d_has_word : At K mg "has_word" s_has_word
  d_is_like_reference : At K mg "is_like_reference" s_is_like_reference
  d_is_reference : At K mg "is_reference" s_is_reference
  d_blocks_of : At K mg "blocks_of" s_blocks_of
  d_is_right : At K mg "is_right" s_is_right
  d_checked : At K mg "checked" s_checked
  d_pairs_in : At K mg "pairs_in" s_pairs_in
  d_statement : At K mg "statement" s_statement
  d_need_formula : At K mg "need_formula" s_need_formula
  d_is_deed : At K mg "is_deed" s_is_deed
  d_rests_on : At K mg "rests_on" s_rests_on
  d_need_recalled : At K mg "need_recalled" s_need_recalled
  d_claim_in : At K mg "claim_in" s_claim_in
  d_behind : At K mg "behind" s_behind
  d_users_in : At K mg "users_in" s_users_in
  d__law_bag : At K mg "_law_bag" s__law_bag
  d__law_pull : At K mg "_law_pull" s__law_pull
  d__law_any : At K mg "_law_any" s__law_any
  d__law_like : At K mg "_law_like" s__law_like
  d__law_fields : At K mg "_law_fields" s__law_fields
  d__law_try : At K mg "_law_try" s__law_try
  d__law_names : At K mg "_law_names" s__law_names
  d__law_form : At K mg "_law_form" s__law_form
  d__law_rows : At K mg "_law_rows" s__law_rows
  d__law_blocks : At K mg "_law_blocks" s__law_blocks
  d__law_paths : At K mg "_law_paths" s__law_paths
  d__law_unlike : At K mg "_law_unlike" s__law_unlike
  d__law_entries : At K mg "_law_entries" s__law_entries
  d__law_deed : At K mg "_law_deed" s__law_deed
  d__law_made_deed : At K mg "_law_made_deed" s__law_made_deed
  d__law_recalled : At K mg "_law_recalled" s__law_recalled
  d__law_place : At K mg "_law_place" s__law_place
  d__law_rests : At K mg "_law_rests" s__law_rests
  d__law_due : At K mg "_law_due" s__law_due
  d__law_states : At K mg "_law_states" s__law_states
  d__law_known : At K mg "_law_known" s__law_known
  d__law_shelf_is : At K mg "_law_shelf_is" s__law_shelf_is
  d__law_applier : At K mg "_law_applier" s__law_applier
  d_statement_terms : ∃ (f : Addr) (fd : FuncData), mg "statement_terms" = some (.ref f) ∧ FnP K "statement" "statement" s_statement f fd
  c_Context : Own K mg "Context" c.Context
  c_Script : Own K mg "Script" c.Script
  c_Claim : Own K mg "Claim" c.Claim
  c_Changing : Own K mg "Changing" c.Changing
  c_Shelf : Own K mg "Shelf" c.Shelf
  mk_Changing : MkD K c.Changing "Changing.__init__" s_Changing___init__ [] []
  mk_Claim : MkD K c.Claim "Claim.__init__" s_Claim___init__ [] [("facts", .non)]
  mk_Shelf : MkD K c.Shelf "Shelf.__init__" s_Shelf___init__ [] [("limit", .int 12)]
  mk_Context : ∃ a, MkD K c.Context "Context.__init__" s_Context___init__ [.ref a] [("deep", .int 10)]
  mk_Script : ∃ a, MkD K c.Script "Script.__init__" s_Script___init__ [.ref a] []
  m_Context_rows : MethD K c.Context "rows" "Context.rows" s_Context_rows [] []
  m_Context___len__ : MethD K c.Context "__len__" "Context.__len__" s_Context___len__ [] []
  m_Context___eq__ : MethD K c.Context "__eq__" "Context.__eq__" s_Context___eq__ [] []
  m_Script_walk : MethD K c.Script "walk" "Script.walk" s_Script_walk [] []
  m_Script_recalled : MethD K c.Script "recalled" "Script.recalled" s_Script_recalled [] []
  m_Script___eq__ : MethD K c.Script "__eq__" "Script.__eq__" s_Script___eq__ [] []
  m_Claim_facts : MethD K c.Claim "facts" "Claim.facts" s_Claim_facts [] []
  m_Changing___enter__ : MethD K c.Changing "__enter__" "Changing.__enter__" s_Changing___enter__ [] []
  m_Changing___exit__ : MethD K c.Changing "__exit__" "Changing.__exit__" s_Changing___exit__ [] []
  m_Shelf_need_limit : MethD K c.Shelf "need_limit" "Shelf.need_limit" s_Shelf_need_limit [] []
  m_Shelf_apply : MethD K c.Shelf "apply" "Shelf.apply" s_Shelf_apply [] []
  m_Shelf_go_to : MethD K c.Shelf "go_to" "Shelf.go_to" s_Shelf_go_to [] []
  m_Shelf_undo : MethD K c.Shelf "undo" "Shelf.undo" s_Shelf_undo [] []
  m_Shelf_redo : MethD K c.Shelf "redo" "Shelf.redo" s_Shelf_redo [] []
  m_Shelf_history : MethD K c.Shelf "history" "Shelf.history" s_Shelf_history [] []
  m_Shelf_need : MethD K c.Shelf "need" "Shelf.need" s_Shelf_need [] []
  m_Shelf_names : MethD K c.Shelf "names" "Shelf.names" s_Shelf_names [] []
  m_Shelf_claim_of : MethD K c.Shelf "claim_of" "Shelf.claim_of" s_Shelf_claim_of [] []
  m_Shelf_statement : MethD K c.Shelf "statement" "Shelf.statement" s_Shelf_statement [] []
  m_Shelf_users : MethD K c.Shelf "users" "Shelf.users" s_Shelf_users [] []
  m_Shelf_rests : MethD K c.Shelf "rests" "Shelf.rests" s_Shelf_rests [] []
  m_Shelf___contains__ : MethD K c.Shelf "__contains__" "Shelf.__contains__" s_Shelf___contains__ [] []
  m_Shelf___len__ : MethD K c.Shelf "__len__" "Shelf.__len__" s_Shelf___len__ [] []
  m_Shelf___repr__ : MethD K c.Shelf "__repr__" "Shelf.__repr__" s_Shelf___repr__ [] []
  p_Claim_script : PropD K c.Claim "script" "Claim.script" s_Claim_script
  p_Claim_context : PropD K c.Claim "context" "Claim.context" s_Claim_context
  p_Claim_goal : PropD K c.Claim "goal" "Claim.goal" s_Claim_goal
  p_Shelf_busy : PropD K c.Shelf "busy" "Shelf.busy" s_Shelf_busy
  f_Context_held : NoAttr K c.Context "held"
  f_Script_held : NoAttr K c.Script "held"
  f_Script_whole : NoAttr K c.Script "whole"
  f_Claim_own_script : NoAttr K c.Claim "own_script"
  f_Claim_own_context : NoAttr K c.Claim "own_context"
  f_Claim_own_goal : NoAttr K c.Claim "own_goal"
  f_Claim_own_facts : NoAttr K c.Claim "own_facts"
  f_Changing_house : NoAttr K c.Changing "house"
  f_Shelf_content : NoAttr K c.Shelf "content"
  f_Shelf_past : NoAttr K c.Shelf "past"
  f_Shelf_future : NoAttr K c.Shelf "future"
  f_Shelf_held : NoAttr K c.Shelf "held"
  f_Shelf_working : NoAttr K c.Shelf "working"
  f_Shelf_reckoned : NoAttr K c.Shelf "reckoned"
  f_Shelf_own_limit : NoAttr K c.Shelf "own_limit"
end AG
namespace AG
open PySem PySem.Spec PyProof.Rows L2
open He (ba eqO eqO_ok ga ma)
abbrev mroVE : List Value := [.type "ValueError", .type "Exception", .type "BaseException", .type "object"]
abbrev mroLE : List Value := [.type "LookupError", .type "Exception", .type "BaseException", .type "object"]
abbrev mroIE : List Value := [.type "IndexError", .type "LookupError", .type "Exception", .type "BaseException", .type "object"]
/-! ### what the head tells besides -/
abbrev lawP : Program := PySem.Challenge.pw_addedgrounds_k59_whole_steps_of_deeds
def refsK (o : Obj) : List Addr := match o.data with
  | .func fd => He.refV fd.code ++ (He.refV fd.defaults ++ (He.refV fd.kwdefaults ++ fd.closure.map (·.2)))
  | .cls cd => [cd.ns]
  | .dict es _ => es.toList.flatMap fun e => He.refV e.val
  | .fields vs => (match o.cls with
    | .type n => (match n == "property" with
      | true => vs.toList.flatMap He.refV
      | false => [])
    | _ => [])
  | _ => []
def stepK (g : Addr → Option Obj) (as : List Addr) : List Addr := as.flatMap fun a => match g a with
  | some o => refsK o
  | none => []
def globK (need : List Str) (g : Addr → Option Obj) : List Addr := match g mainGlobals with
  | some o => (match o.data with
    | .dict es _ => es.toList.flatMap fun e => match e.key, e.val with
      | .str y _, .ref a => (match need.contains y with
        | true => [a]
        | false => [])
      | _, _ => []
    | _ => [])
  | none => []
def frNat {α : Type} (n : Nat) (k : Nat → α) : α := match n with
  | 0 => k 0
  | m + 1 => k (m + 1)
def frL {α : Type} : List Addr → (List Addr → α) → α
  | [], k => k []
  | a :: r, k => frNat a fun a => frL r fun r => k (a :: r)
def frK {α : Type} : PySem.W.Frag → (PySem.W.Frag → α) → α
  | [], k => k []
  | (a, ⟨c, d, dt, sl⟩) :: r, k => frNat a fun a => frK r fun r => k ((a, ⟨c, d, dt, sl⟩) :: r)
/-- what is looked at -/
def withAs {α : Type} (need : List Str) (g : Addr → Option Obj) (k : List Addr → α) : α := frL (globK need g) fun l1 => frL (stepK g l1) fun l2 => frL (stepK g l2) fun l3 => frL (stepK g l3) fun l4 => frL (stepK g l4) fun l5 => k (mainGlobals :: cStatics :: (l1 ++ (l2 ++ (l3 ++ (l4 ++ l5)))))
abbrev FnY : Type := Option (Str × Str × Arguments × FuncBody × Scope × Addr × List Str × Value × Value × Addr)
def fnY (K : PySem.W.Frag) (a : Addr) : FnY := match K.lookup a with
  | some ⟨_, _, .func fd, _⟩ => some (fd.name, fd.qualname, fd.params, fd.body, fd.scope, fd.globals, fd.closure.map (·.1), fd.defaults, fd.kwdefaults, fd.builtins)
  | _ => none
structure YD where
  path : PySem.W.Frag → Addr
  name : Str
  qual : Str
  st : Stmt
  clo : List Str
def YD.val (d : YD) : FnY := some (d.name, d.qual, defArgs d.st, .stmts (defBody d.st), defScope d.st, mainGlobals, d.clo, .none, .none, builtinsNs)
def clo1 (K : PySem.W.Frag) (a : Addr) : Addr := match K.lookup a with
  | some ⟨_, _, .func fd, _⟩ => (match fd.closure with
    | (_, c) :: _ => c
    | _ => 0)
  | _ => 0
def codA (K : PySem.W.Frag) (a : Addr) : Addr := match K.lookup a with
  | some ⟨_, _, .func fd, _⟩ => (match fd.code with
    | .ref c => c
    | _ => 0)
  | _ => 0
def codB (K : PySem.W.Frag) (a : Addr) (q : Str) : Bool := match K.lookup a with
  | some ⟨_, _, .func fd, _⟩ => PySem.W.codeIn K fd.code q
  | _ => false
/-! ### own classes -/
def owns : List Str := ["Context", "Script", "Claim", "Changing", "Shelf"]
def ownB (K : PySem.W.Frag) (x : Str) : Bool := eqO (PySem.W.findIn K (.ref (ga K x)) "__class__") (some (some (.builtin "object.__class__"))) && (eqO (PySem.W.specialIn K (.builtin "object.__class__") "__get__") (some (some (.builtin "getset_descriptor.__get__"))) && (decide (PySem.W.takesIn K (.builtin "object.__class__") = some true) &&
  (decide (PySem.W.mroIn K (ga K x) (.type "object") = some true) && (decide (PySem.W.kitOne K (.ref (ga K x)) (.ref (ga K x)) = some true) && PySem.W.keepIn K (.ref (ga K x))))))
/-! ### properties -/
structure PD where
  C : Str
  m : Str
  qual : Str
  st : Stmt
def pgA (K : PySem.W.Frag) (p : Addr) : Addr := match PySem.W.recIn K p "property" with
  | some (.ref g :: _) => g
  | _ => 0
def propB (K : PySem.W.Frag) (d : PD) : Bool := eqO (PySem.W.findIn K (.ref (ga K d.C)) d.m) (some (some (.ref (ma K (ga K d.C) d.m)))) && (eqO (PySem.W.specialIn K (.ref (ma K (ga K d.C) d.m)) "__get__") (some (some (.builtin "property.__get__"))) && (decide (PySem.W.takesIn K (.ref (ma K (ga K d.C) d.m)) = some true) &&
  ((match PySem.W.recIn K (ma K (ga K d.C) d.m) "property" with
    | some (.ref _ :: _) => true
    | _ => false) && (codB K (pgA K (ma K (ga K d.C) d.m)) d.qual && PySem.W.keepIn K (.ref (pgA K (ma K (ga K d.C) d.m)))))))
def PD.y (d : PD) : YD := ⟨fun K => pgA K (ma K (ga K d.C) d.m), d.m, d.qual, d.st, []⟩
/-! ### own exceptions -/
structure XD where
  x : Str
  st : Stmt
  qual : Str
  fld : Option Str
  B : String
  newId : String
  initId : String
  bmB : List Value
def XD.y (d : XD) : YD := ⟨fun K => ma K (ga K d.x) "__init__", "__init__", d.qual, d.st, ["__class__"]⟩
def cellB (K : PySem.W.Frag) (a C : Addr) : Bool := match K.lookup a with
  | some ⟨_, _, .cell (some (.ref b)), _⟩ => decide (b = C)
  | _ => false
def fileB (K : PySem.W.Frag) (a : Addr) (file : Str) : Bool := match K.lookup a with
  | some ⟨_, _, .fields vs, _⟩ => (match (vs[2]? : Option Value) with
    | some (.str f _) => file == f
    | _ => false)
  | _ => false
def xB (K : PySem.W.Frag) (d : XD) : Bool := PySem.W.excInitIn K (ga K d.x) d.bmB d.newId && (PySem.W.hasDictIn K (ga K d.x) && (eqO (PySem.W.findIn K (.ref (ga K d.x)) "__setattr__") (some (some (.builtin "object.__setattr__"))) && (eqO (PySem.W.findIn K (.ref (ga K d.x)) "code") (some none) &&
  (eqO (PySem.W.findIn K (.ref (ga K d.x)) "__init__") (some (some (.ref (ma K (ga K d.x) "__init__")))) && (decide (PySem.W.typeIn K (.ref (ma K (ga K d.x) "__init__")) = some (.type "function")) && (PySem.W.keepIn K (.ref (ga K d.x)) && (decide (PySem.W.subIn K (.ref (ga K d.x)) (.type "BaseException") = some true) &&
  (decide (PySem.W.typeIn K (.ref (ga K d.x)) = some (.type "type")) && (decide (PySem.W.subIn K (.ref (ga K d.x)) (.type d.B) = some true) && (decide (PySem.W.mroIn K (ga K d.x) (.ref (ga K d.x)) = some true) && (eqO (PySem.W.ks_superIn K (ga K d.x) (ga K d.x) "__init__") (some (some (.builtin d.initId))) &&
  (cellB K (clo1 K (ma K (ga K d.x) "__init__")) (ga K d.x) && (fileB K (codA K (ma K (ga K d.x) "__init__")) lawP.main.file && (codB K (ma K (ga K d.x) "__init__") d.qual && ((match d.fld with
    | none => true
    | some f => eqO (PySem.W.findIn K (.ref (ga K d.x)) f) (some none)) && (decide (PySem.W.exmAny K (.ref (ga K d.x)) [.ref (ga K "GroundError"), .ref (ga K "Missing"), .ref (ga K "NothingLeft")] = some true) && xfB K (ga K d.x)))))))))))))))))
def df_is_number : He.DefD := ⟨("is_number", none), "is_number", "is_number", defArgs s_is_number, defBody s_is_number, defScope s_is_number, [], []⟩
def df_is_listed : He.DefD := ⟨("is_listed", none), "is_listed", "is_listed", defArgs s_is_listed, defBody s_is_listed, defScope s_is_listed, [], []⟩
def df_is_name : He.DefD := ⟨("is_name", none), "is_name", "is_name", defArgs s_is_name, defBody s_is_name, defScope s_is_name, [], []⟩
def df_is_leaf : He.DefD := ⟨("is_leaf", none), "is_leaf", "is_leaf", defArgs s_is_leaf, defBody s_is_leaf, defScope s_is_leaf, [], []⟩
def df_is_form : He.DefD := ⟨("is_form", none), "is_form", "is_form", defArgs s_is_form, defBody s_is_form, defScope s_is_form, [], []⟩
def df_is_formula : He.DefD := ⟨("is_formula", none), "is_formula", "is_formula", defArgs s_is_formula, defBody s_is_formula, defScope s_is_formula, [], []⟩
def df_chained : He.DefD := ⟨("chained", none), "chained", "chained", defArgs s_chained, defBody s_chained, defScope s_chained, [], []⟩
def df_is_row : He.DefD := ⟨("is_row", none), "is_row", "is_row", defArgs s_is_row, defBody s_is_row, defScope s_is_row, [], []⟩
def df_has_word : He.DefD := ⟨("has_word", none), "has_word", "has_word", defArgs s_has_word, defBody s_has_word, defScope s_has_word, [], []⟩
def df_is_like_reference : He.DefD := ⟨("is_like_reference", none), "is_like_reference", "is_like_reference", defArgs s_is_like_reference, defBody s_is_like_reference, defScope s_is_like_reference, [], []⟩
def df_is_reference : He.DefD := ⟨("is_reference", none), "is_reference", "is_reference", defArgs s_is_reference, defBody s_is_reference, defScope s_is_reference, [], []⟩
def df_blocks_of : He.DefD := ⟨("blocks_of", none), "blocks_of", "blocks_of", defArgs s_blocks_of, defBody s_blocks_of, defScope s_blocks_of, [], []⟩
def df_is_right : He.DefD := ⟨("is_right", none), "is_right", "is_right", defArgs s_is_right, defBody s_is_right, defScope s_is_right, [], []⟩
def df_checked : He.DefD := ⟨("checked", none), "checked", "checked", defArgs s_checked, defBody s_checked, defScope s_checked, [], []⟩
def df_pairs_in : He.DefD := ⟨("pairs_in", none), "pairs_in", "pairs_in", defArgs s_pairs_in, defBody s_pairs_in, defScope s_pairs_in, [], []⟩
def df_statement : He.DefD := ⟨("statement", none), "statement", "statement", defArgs s_statement, defBody s_statement, defScope s_statement, [], []⟩
def df_need_formula : He.DefD := ⟨("need_formula", none), "need_formula", "need_formula", defArgs s_need_formula, defBody s_need_formula, defScope s_need_formula, [], []⟩
def df_is_deed : He.DefD := ⟨("is_deed", none), "is_deed", "is_deed", defArgs s_is_deed, defBody s_is_deed, defScope s_is_deed, [], []⟩
def df_rests_on : He.DefD := ⟨("rests_on", none), "rests_on", "rests_on", defArgs s_rests_on, defBody s_rests_on, defScope s_rests_on, [], []⟩
def df_need_recalled : He.DefD := ⟨("need_recalled", none), "need_recalled", "need_recalled", defArgs s_need_recalled, defBody s_need_recalled, defScope s_need_recalled, [], []⟩
def df_claim_in : He.DefD := ⟨("claim_in", none), "claim_in", "claim_in", defArgs s_claim_in, defBody s_claim_in, defScope s_claim_in, [], []⟩
def df_behind : He.DefD := ⟨("behind", none), "behind", "behind", defArgs s_behind, defBody s_behind, defScope s_behind, [], []⟩
def df_users_in : He.DefD := ⟨("users_in", none), "users_in", "users_in", defArgs s_users_in, defBody s_users_in, defScope s_users_in, [], []⟩
def df__law_bag : He.DefD := ⟨("_law_bag", none), "_law_bag", "_law_bag", defArgs s__law_bag, defBody s__law_bag, defScope s__law_bag, [], []⟩
def df__law_pull : He.DefD := ⟨("_law_pull", none), "_law_pull", "_law_pull", defArgs s__law_pull, defBody s__law_pull, defScope s__law_pull, [], []⟩
def df__law_any : He.DefD := ⟨("_law_any", none), "_law_any", "_law_any", defArgs s__law_any, defBody s__law_any, defScope s__law_any, [], []⟩
def df__law_like : He.DefD := ⟨("_law_like", none), "_law_like", "_law_like", defArgs s__law_like, defBody s__law_like, defScope s__law_like, [], []⟩
def df__law_fields : He.DefD := ⟨("_law_fields", none), "_law_fields", "_law_fields", defArgs s__law_fields, defBody s__law_fields, defScope s__law_fields, [], []⟩
def df__law_try : He.DefD := ⟨("_law_try", none), "_law_try", "_law_try", defArgs s__law_try, defBody s__law_try, defScope s__law_try, [], []⟩
def df__law_names : He.DefD := ⟨("_law_names", none), "_law_names", "_law_names", defArgs s__law_names, defBody s__law_names, defScope s__law_names, [], []⟩
def df__law_form : He.DefD := ⟨("_law_form", none), "_law_form", "_law_form", defArgs s__law_form, defBody s__law_form, defScope s__law_form, [], []⟩
def df__law_rows : He.DefD := ⟨("_law_rows", none), "_law_rows", "_law_rows", defArgs s__law_rows, defBody s__law_rows, defScope s__law_rows, [], []⟩
def df__law_blocks : He.DefD := ⟨("_law_blocks", none), "_law_blocks", "_law_blocks", defArgs s__law_blocks, defBody s__law_blocks, defScope s__law_blocks, [], []⟩
def df__law_paths : He.DefD := ⟨("_law_paths", none), "_law_paths", "_law_paths", defArgs s__law_paths, defBody s__law_paths, defScope s__law_paths, [], []⟩
def df__law_unlike : He.DefD := ⟨("_law_unlike", none), "_law_unlike", "_law_unlike", defArgs s__law_unlike, defBody s__law_unlike, defScope s__law_unlike, [], []⟩
def df__law_entries : He.DefD := ⟨("_law_entries", none), "_law_entries", "_law_entries", defArgs s__law_entries, defBody s__law_entries, defScope s__law_entries, [], []⟩
def df__law_deed : He.DefD := ⟨("_law_deed", none), "_law_deed", "_law_deed", defArgs s__law_deed, defBody s__law_deed, defScope s__law_deed, [], []⟩
def df__law_made_deed : He.DefD := ⟨("_law_made_deed", none), "_law_made_deed", "_law_made_deed", defArgs s__law_made_deed, defBody s__law_made_deed, defScope s__law_made_deed, [], []⟩
def df__law_recalled : He.DefD := ⟨("_law_recalled", none), "_law_recalled", "_law_recalled", defArgs s__law_recalled, defBody s__law_recalled, defScope s__law_recalled, [], []⟩
def df__law_place : He.DefD := ⟨("_law_place", none), "_law_place", "_law_place", defArgs s__law_place, defBody s__law_place, defScope s__law_place, [], []⟩
def df__law_rests : He.DefD := ⟨("_law_rests", none), "_law_rests", "_law_rests", defArgs s__law_rests, defBody s__law_rests, defScope s__law_rests, [], []⟩
def df__law_due : He.DefD := ⟨("_law_due", none), "_law_due", "_law_due", defArgs s__law_due, defBody s__law_due, defScope s__law_due, [], []⟩
def df__law_states : He.DefD := ⟨("_law_states", none), "_law_states", "_law_states", defArgs s__law_states, defBody s__law_states, defScope s__law_states, [], []⟩
def df__law_known : He.DefD := ⟨("_law_known", none), "_law_known", "_law_known", defArgs s__law_known, defBody s__law_known, defScope s__law_known, [], []⟩
def df__law_shelf_is : He.DefD := ⟨("_law_shelf_is", none), "_law_shelf_is", "_law_shelf_is", defArgs s__law_shelf_is, defBody s__law_shelf_is, defScope s__law_shelf_is, [], []⟩
def df__law_applier : He.DefD := ⟨("_law_applier", none), "_law_applier", "_law_applier", defArgs s__law_applier, defBody s__law_applier, defScope s__law_applier, [], []⟩
def df_statement_terms : He.DefD := ⟨("statement_terms", none), "statement", "statement", defArgs s_statement, defBody s_statement, defScope s_statement, [], []⟩
def df_Changing__init__ : He.DefD := ⟨("Changing", some "__init__"), "__init__", "Changing.__init__", defArgs s_Changing___init__, defBody s_Changing___init__, defScope s_Changing___init__, [], []⟩
def df_Claim__init__ : He.DefD := ⟨("Claim", some "__init__"), "__init__", "Claim.__init__", defArgs s_Claim___init__, defBody s_Claim___init__, defScope s_Claim___init__, [], [("facts", .non)]⟩
def df_Shelf__init__ : He.DefD := ⟨("Shelf", some "__init__"), "__init__", "Shelf.__init__", defArgs s_Shelf___init__, defBody s_Shelf___init__, defScope s_Shelf___init__, [], [("limit", .int 12)]⟩
def df_Context__init__ : He.DefD := ⟨("Context", some "__init__"), "__init__", "Context.__init__", defArgs s_Context___init__, defBody s_Context___init__, defScope s_Context___init__, [.adr (He.dflAt ("Context", some "__init__") 0)], [("deep", .int 10)]⟩
def df_Script__init__ : He.DefD := ⟨("Script", some "__init__"), "__init__", "Script.__init__", defArgs s_Script___init__, defBody s_Script___init__, defScope s_Script___init__, [.adr (He.dflAt ("Script", some "__init__") 0)], []⟩
def df_Context_rows : He.DefD := ⟨("Context", some "rows"), "rows", "Context.rows", defArgs s_Context_rows, defBody s_Context_rows, defScope s_Context_rows, [], []⟩
def df_Context___len__ : He.DefD := ⟨("Context", some "__len__"), "__len__", "Context.__len__", defArgs s_Context___len__, defBody s_Context___len__, defScope s_Context___len__, [], []⟩
def df_Context___eq__ : He.DefD := ⟨("Context", some "__eq__"), "__eq__", "Context.__eq__", defArgs s_Context___eq__, defBody s_Context___eq__, defScope s_Context___eq__, [], []⟩
def df_Script_walk : He.DefD := ⟨("Script", some "walk"), "walk", "Script.walk", defArgs s_Script_walk, defBody s_Script_walk, defScope s_Script_walk, [], []⟩
def df_Script_recalled : He.DefD := ⟨("Script", some "recalled"), "recalled", "Script.recalled", defArgs s_Script_recalled, defBody s_Script_recalled, defScope s_Script_recalled, [], []⟩
def df_Script___eq__ : He.DefD := ⟨("Script", some "__eq__"), "__eq__", "Script.__eq__", defArgs s_Script___eq__, defBody s_Script___eq__, defScope s_Script___eq__, [], []⟩
def df_Claim_facts : He.DefD := ⟨("Claim", some "facts"), "facts", "Claim.facts", defArgs s_Claim_facts, defBody s_Claim_facts, defScope s_Claim_facts, [], []⟩
def df_Changing___enter__ : He.DefD := ⟨("Changing", some "__enter__"), "__enter__", "Changing.__enter__", defArgs s_Changing___enter__, defBody s_Changing___enter__, defScope s_Changing___enter__, [], []⟩
def df_Changing___exit__ : He.DefD := ⟨("Changing", some "__exit__"), "__exit__", "Changing.__exit__", defArgs s_Changing___exit__, defBody s_Changing___exit__, defScope s_Changing___exit__, [], []⟩
def df_Shelf_need_limit : He.DefD := ⟨("Shelf", some "need_limit"), "need_limit", "Shelf.need_limit", defArgs s_Shelf_need_limit, defBody s_Shelf_need_limit, defScope s_Shelf_need_limit, [], []⟩
def df_Shelf_apply : He.DefD := ⟨("Shelf", some "apply"), "apply", "Shelf.apply", defArgs s_Shelf_apply, defBody s_Shelf_apply, defScope s_Shelf_apply, [], []⟩
def df_Shelf_go_to : He.DefD := ⟨("Shelf", some "go_to"), "go_to", "Shelf.go_to", defArgs s_Shelf_go_to, defBody s_Shelf_go_to, defScope s_Shelf_go_to, [], []⟩
def df_Shelf_undo : He.DefD := ⟨("Shelf", some "undo"), "undo", "Shelf.undo", defArgs s_Shelf_undo, defBody s_Shelf_undo, defScope s_Shelf_undo, [], []⟩
def df_Shelf_redo : He.DefD := ⟨("Shelf", some "redo"), "redo", "Shelf.redo", defArgs s_Shelf_redo, defBody s_Shelf_redo, defScope s_Shelf_redo, [], []⟩
def df_Shelf_history : He.DefD := ⟨("Shelf", some "history"), "history", "Shelf.history", defArgs s_Shelf_history, defBody s_Shelf_history, defScope s_Shelf_history, [], []⟩
def df_Shelf_need : He.DefD := ⟨("Shelf", some "need"), "need", "Shelf.need", defArgs s_Shelf_need, defBody s_Shelf_need, defScope s_Shelf_need, [], []⟩
def df_Shelf_names : He.DefD := ⟨("Shelf", some "names"), "names", "Shelf.names", defArgs s_Shelf_names, defBody s_Shelf_names, defScope s_Shelf_names, [], []⟩
def df_Shelf_claim_of : He.DefD := ⟨("Shelf", some "claim_of"), "claim_of", "Shelf.claim_of", defArgs s_Shelf_claim_of, defBody s_Shelf_claim_of, defScope s_Shelf_claim_of, [], []⟩
def df_Shelf_statement : He.DefD := ⟨("Shelf", some "statement"), "statement", "Shelf.statement", defArgs s_Shelf_statement, defBody s_Shelf_statement, defScope s_Shelf_statement, [], []⟩
def df_Shelf_users : He.DefD := ⟨("Shelf", some "users"), "users", "Shelf.users", defArgs s_Shelf_users, defBody s_Shelf_users, defScope s_Shelf_users, [], []⟩
def df_Shelf_rests : He.DefD := ⟨("Shelf", some "rests"), "rests", "Shelf.rests", defArgs s_Shelf_rests, defBody s_Shelf_rests, defScope s_Shelf_rests, [], []⟩
def df_Shelf___contains__ : He.DefD := ⟨("Shelf", some "__contains__"), "__contains__", "Shelf.__contains__", defArgs s_Shelf___contains__, defBody s_Shelf___contains__, defScope s_Shelf___contains__, [], []⟩
def df_Shelf___len__ : He.DefD := ⟨("Shelf", some "__len__"), "__len__", "Shelf.__len__", defArgs s_Shelf___len__, defBody s_Shelf___len__, defScope s_Shelf___len__, [], []⟩
def df_Shelf___repr__ : He.DefD := ⟨("Shelf", some "__repr__"), "__repr__", "Shelf.__repr__", defArgs s_Shelf___repr__, defBody s_Shelf___repr__, defScope s_Shelf___repr__, [], []⟩
def df_law : He.DefD := ⟨("law", none), "law", "law", defArgs s_law, defBody s_law, defScope s_law, [], []⟩
def fa0 : List He.Fa := [.free "isinstance", .free "len", .free "int", .free "str", .free "bool", .free "list", .free "tuple", .free "dict", .free "all", .free "sorted", .free "enumerate", .free "range", .free "repr", .free "zip", .free "max"]
def fa1 : List He.Fa := [.free "super", .int "MOST_LETTERS" 6, .int "MOST_DEEP" 10, .int "MOST_ROWS" 40, .int "MOST_COMMANDS" 16, .int "MOST_NESTED" 3, .int "MOST_TURNS" 3, .int "MOST_PLACE" 4, .int "MOST_OWN" 8, .int "MOST_ENTRIES" 20, .str "LETTERS" abc, .glo "PAIRS", .glo "SIZES_scripts", .glo "REFERENCES", .glo "SIZES_shelf"]
def fa2 : List He.Fa := [.glo "is_number", .glo "is_listed", .glo "is_name", .glo "is_leaf", .glo "is_form", .glo "is_formula", .glo "chained", .glo "is_row", .glo "has_word", .glo "is_like_reference", .glo "is_reference", .glo "blocks_of", .glo "is_right", .glo "checked", .glo "pairs_in"]
def fa3 : List He.Fa := [.glo "statement", .glo "need_formula", .glo "is_deed", .glo "rests_on", .glo "need_recalled", .glo "claim_in", .glo "behind", .glo "users_in", .glo "_law_bag", .glo "_law_pull", .glo "_law_any", .glo "_law_like", .glo "_law_fields", .glo "_law_try", .glo "_law_names"]
def fa4 : List He.Fa := [.glo "_law_form", .glo "_law_rows", .glo "_law_blocks", .glo "_law_paths", .glo "_law_unlike", .glo "_law_entries", .glo "_law_deed", .glo "_law_made_deed", .glo "_law_recalled", .glo "_law_place", .glo "_law_rests", .glo "_law_due", .glo "_law_states", .glo "_law_known", .glo "_law_shelf_is"]
def fa5 : List He.Fa := [.glo "_law_applier", .glo "statement_terms", .glo "Context", .cls "Context", .glo "Script", .cls "Script", .glo "Claim", .cls "Claim", .glo "Changing", .cls "Changing", .glo "Shelf", .cls "Shelf", .mkr "Changing", .mkr "Claim", .mkr "Shelf"]
def fa6 : List He.Fa := [.mkr "Context", .mkr "Script", .meth "Context" "rows", .meth "Context" "__len__", .meth "Context" "__eq__", .meth "Script" "walk", .meth "Script" "recalled", .meth "Script" "__eq__", .meth "Claim" "facts", .meth "Changing" "__enter__", .meth "Changing" "__exit__", .meth "Shelf" "need_limit", .meth "Shelf" "apply", .meth "Shelf" "go_to", .meth "Shelf" "undo"]
def fa7 : List He.Fa := [.meth "Shelf" "redo", .meth "Shelf" "history", .meth "Shelf" "need", .meth "Shelf" "names", .meth "Shelf" "claim_of", .meth "Shelf" "statement", .meth "Shelf" "users", .meth "Shelf" "rests", .meth "Shelf" "__contains__", .meth "Shelf" "__len__", .meth "Shelf" "__repr__", .noat "Context" "held", .noat "Script" "held", .noat "Script" "whole", .noat "Claim" "own_script"]
def fa8 : List He.Fa := [.noat "Claim" "own_context", .noat "Claim" "own_goal", .noat "Claim" "own_facts", .noat "Changing" "house", .noat "Shelf" "content", .noat "Shelf" "past", .noat "Shelf" "future", .noat "Shelf" "held", .noat "Shelf" "working", .noat "Shelf" "reckoned", .noat "Shelf" "own_limit", .glo "law", .glo "GroundError", .glo "Missing", .glo "NothingLeft"]
def fa9 : List He.Fa := [.glo "Circular", .glo "NameInUse", .glo "Full", .glo "UnknownName"]
def faAll : List He.Fa := fa0 ++ fa1 ++ fa2 ++ fa3 ++ fa4 ++ fa5 ++ fa6 ++ fa7 ++ fa8 ++ fa9
def fn0 : List He.DefD := [df_is_number, df_is_listed, df_is_name, df_is_leaf, df_is_form, df_is_formula, df_chained, df_is_row, df_has_word, df_is_like_reference, df_is_reference, df_blocks_of, df_is_right, df_checked, df_pairs_in]
def fn1 : List He.DefD := [df_statement, df_need_formula, df_is_deed, df_rests_on, df_need_recalled, df_claim_in, df_behind, df_users_in, df__law_bag, df__law_pull, df__law_any, df__law_like, df__law_fields, df__law_try, df__law_names]
def fn2 : List He.DefD := [df__law_form, df__law_rows, df__law_blocks, df__law_paths, df__law_unlike, df__law_entries, df__law_deed, df__law_made_deed, df__law_recalled, df__law_place, df__law_rests, df__law_due, df__law_states, df__law_known, df__law_shelf_is]
def fn3 : List He.DefD := [df__law_applier, df_statement_terms, df_Changing__init__, df_Claim__init__, df_Shelf__init__, df_Context__init__, df_Script__init__, df_Context_rows, df_Context___len__, df_Context___eq__, df_Script_walk, df_Script_recalled, df_Script___eq__, df_Claim_facts, df_Changing___enter__]
def fn4 : List He.DefD := [df_Changing___exit__, df_Shelf_need_limit, df_Shelf_apply, df_Shelf_go_to, df_Shelf_undo, df_Shelf_redo, df_Shelf_history, df_Shelf_need, df_Shelf_names, df_Shelf_claim_of, df_Shelf_statement, df_Shelf_users, df_Shelf_rests, df_Shelf___contains__, df_Shelf___len__]
def fn5 : List He.DefD := [df_Shelf___repr__, df_law]
def fnAll : List He.DefD := fn0 ++ fn1 ++ fn2 ++ fn3 ++ fn4 ++ fn5
def need0 : List Str := ["PAIRS", "SIZES_scripts", "REFERENCES", "SIZES_shelf", "is_number", "is_listed", "is_name", "is_leaf", "is_form", "is_formula", "chained", "is_row", "has_word", "is_like_reference", "is_reference"]
def need1 : List Str := ["blocks_of", "is_right", "checked", "pairs_in", "statement", "need_formula", "is_deed", "rests_on", "need_recalled", "claim_in", "behind", "users_in", "_law_bag", "_law_pull", "_law_any"]
def need2 : List Str := ["_law_like", "_law_fields", "_law_try", "_law_names", "_law_form", "_law_rows", "_law_blocks", "_law_paths", "_law_unlike", "_law_entries", "_law_deed", "_law_made_deed", "_law_recalled", "_law_place", "_law_rests"]
def need3 : List Str := ["_law_due", "_law_states", "_law_known", "_law_shelf_is", "_law_applier", "statement_terms", "Context", "Script", "Claim", "Changing", "Shelf", "law", "GroundError", "Missing", "NothingLeft"]
def need4 : List Str := ["Circular", "NameInUse", "Full", "UnknownName"]
def needN : List Str := need0 ++ need1 ++ need2 ++ need3 ++ need4
def tsAll : List He.Tab := [(fun K => ga K "SIZES_scripts", ["intro", "exact", "apply", "open", "drop", "move", "use", "split", "left", "right", "absurd", "have", "recall", "first", "try", "repeat", "all"]), (fun K => ga K "REFERENCES", ["name", "newest", "oldest", "shape", "both", "goal", "toward"]), (fun K => ga K "SIZES_shelf", ["fact", "script", "drop"])]
def tfAll : List He.Defn := [("law", none), ("_law_applier", none)]
def kv_SIZES_scripts : List (Str × He.Dv) := [("exact", .int 2), ("intro", .int 2), ("recall", .int 2), ("try", .int 2)]
def kv_REFERENCES : List (Str × He.Dv) := [("goal", .int 1), ("newest", .int 2)]
def kv_SIZES_shelf : List (Str × He.Dv) := [("fact", .int 5), ("script", .int 3), ("drop", .int 2)]
def propD : List PD := [⟨"Claim", "script", "Claim.script", s_Claim_script⟩, ⟨"Claim", "context", "Claim.context", s_Claim_context⟩, ⟨"Claim", "goal", "Claim.goal", s_Claim_goal⟩, ⟨"Shelf", "busy", "Shelf.busy", s_Shelf_busy⟩]
def xd_Circular : XD := ⟨"Circular", s_Circular___init__, "Circular.__init__", some "name", "ValueError", "ValueError.__new__", "ValueError.__init__", mroVE⟩
def xd_NameInUse : XD := ⟨"NameInUse", s_NameInUse___init__, "NameInUse.__init__", some "user", "ValueError", "ValueError.__new__", "ValueError.__init__", mroVE⟩
def xd_Full : XD := ⟨"Full", s_Full___init__, "Full.__init__", some "most", "ValueError", "ValueError.__new__", "ValueError.__init__", mroVE⟩
def xd_UnknownName : XD := ⟨"UnknownName", s_UnknownName___init__, "UnknownName.__init__", some "value", "LookupError", "LookupError.__new__", "LookupError.__init__", mroLE⟩
def xd_NothingLeft : XD := ⟨"NothingLeft", s_NothingLeft___init__, "NothingLeft.__init__", none, "IndexError", "IndexError.__new__", "IndexError.__init__", mroIE⟩
def xsAll : List XD := [xd_Circular, xd_NameInUse, xd_Full, xd_UnknownName, xd_NothingLeft]
def ysAll : List YD := propD.map PD.y ++ xsAll.map XD.y
def exAll (K : PySem.W.Frag) : Bool := owns.all (ownB K) && (propD.all (propB K) && (xsAll.all (xB K) && (eqO (PySem.W.nsIn K cStatics "thirdparty.any") (some none) && (He.tupB K "PAIRS" [.str "then", .str "and", .str "or"] && (He.valsB K (ga K "SIZES_scripts") kv_SIZES_scripts && (He.valsB K (ga K "REFERENCES") kv_REFERENCES && He.valsB K (ga K "SIZES_shelf") kv_SIZES_shelf))))))
abbrev AlY : Type := (He.AlT × List FnY) × Bool
def obsK (g : Addr → Option Obj) (K : PySem.W.Frag) : AlY := ((He.obsT faAll fnAll tsAll K, ysAll.map fun d => fnY K (d.path K)), exAll K && (He.tabsB g tfAll K && !decide ((He.cT K ("law", none)).2 = (He.cT K ("_law_applier", none)).2)))
def obsY (g : Addr → Option Obj) : AlY := withAs needN g fun as => frK (He.frT g as) fun K => obsK g K
def valY (w : World) : AlY := ((He.valT fnAll tsAll w, ysAll.map YD.val), true)
def nm0 : List PySem.Str := ["_wall", "__name__", "GroundError", "Missing", "InvalidName", "InvalidNumber", "InvalidFormula", "InvalidRow", "InvalidCommand", "InvalidText", "InvalidDeed", "TooMany", "Circular", "NameInUse", "Full"]
def nm1 : List PySem.Str := ["UnknownName", "NothingLeft", "LETTERS", "MOST_LETTERS", "MOST_DEEP", "SHAPE_DEEP", "FALSE", "PAIRS", "SIGNS_formulas", "WORDS", "is_number", "is_listed", "is_name", "is_leaf", "is_form"]
def nm2 : List PySem.Str := ["is_formula", "is_shape", "written", "split_pair", "form_in", "leaves_of", "atoms_of", "chained", "MOST_ROWS", "DEEPEST", "is_row", "row_text", "row_in", "Context", "MOST_COMMANDS"]
def nm3 : List PySem.Str := ["MOST_NESTED", "MOST_TURNS", "MOST_PLACE", "SIZES_scripts", "REFERENCES", "SIGNS_scripts", "has_word", "is_like_reference", "is_reference", "reference_text", "reference_in", "blocks_of", "is_right", "checked", "pairs_in"]
def nm4 : List PySem.Str := ["lines_of", "tokens_of", "command_in", "ScriptReader", "Script", "words_of", "statement", "statement_terms", "need_formula", "MOST_OWN", "MOST_NODES", "Claim", "MOST_ENTRIES", "SIZES_shelf", "is_deed"]
def nm5 : List PySem.Str := ["rests_on", "need_recalled", "claim_in", "behind", "users_in", "Changing", "Shelf", "_law_bag", "_law_pull", "_law_any", "_law_like", "_law_fields", "_law_try", "_law_names", "_law_form"]
def nm6 : List PySem.Str := ["_law_rows", "_law_blocks", "_law_paths", "_law_unlike", "_law_entries", "_law_deed", "_law_made_deed", "_law_recalled", "_law_place", "_law_rests", "_law_due", "_law_states", "_law_known", "_law_shelf_is", "_law_applier"]
def looseN : List PySem.Str := nm0 ++ nm1 ++ nm2 ++ nm3 ++ nm4 ++ nm5 ++ nm6
end AG
set_option maxHeartbeats 0
namespace AG
open PySem PySem.W PySem.Calls PyProof.Rows
/-! ### the top's run, looked at six times -/
abbrev lawRow : OpenRow := OpenLaw.row PySem.Challenge.rw_addedgrounds_k59_whole_steps_of_deeds
noncomputable def lawEnd (w : World) (os : OsState) : Option SharedT := HandSHeadRun.endF (HandSHeadRun.stepQ (HandSHeadRun.denQ HandSHeadRun.tabQ) lawRow.prog w) 20000 lawRow.prog w os
noncomputable def ob1 (s : SharedT) : Bool := withAs needN (HandSHeadRun.getT s) fun as => frK (He.frT (HandSHeadRun.getT s) as) fun K => faAll.all fun f => f.ok K
noncomputable def ob4 (s : SharedT) : Bool := withAs needN (HandSHeadRun.getT s) fun as => frK (He.frT (HandSHeadRun.getT s) as) fun K => fnAll.all fun d => d.ok K
noncomputable def ob3 (s : SharedT) : List He.FnW × List (Option (List (Option (Str × Int)))) := withAs needN (HandSHeadRun.getT s) fun as => frK (He.frT (HandSHeadRun.getT s) as) fun K => (fnAll.map fun d => He.fnW K d.at_, tsAll.map fun t => He.dicW K (t.1 K))
noncomputable def ob2 (s : SharedT) : List FnY × Bool := withAs needN (HandSHeadRun.getT s) fun as => frK (He.frT (HandSHeadRun.getT s) as) fun K => (ysAll.map fun d => fnY K (d.path K), exAll K && (He.tabsB (HandSHeadRun.getT s) tfAll K && !decide ((He.cT K ("law", none)).2 = (He.cT K ("_law_applier", none)).2)))
def RunA (w : World) : Prop := ∀ os : OsState, (lawEnd w os).map (fun s => HandSHeadRun.looksF lawRow.prog (boot_heap w.params) s.abs) = some true
def RunS (w : World) : Prop := ∀ os : OsState, (lawEnd w os).map (fun s => HandSHeadRun.seenQ (view lawRow.prog [113]) looseN (importedModules lawRow.prog.main.body) (fun s => xlAt (view lawRow.prog [113]) [] s && recOk lawRow.toRowW.records s) s.abs) = some (openGood (view lawRow.prog [113]) looseN)
def RunE (w : World) : Prop := ∀ os : OsState, (lawEnd w os).map ob4 = some true
def RunB (w : World) : Prop := ∀ os : OsState, (lawEnd w os).map ob1 = some true
def RunC (w : World) : Prop := ∀ os : OsState, (lawEnd w os).map ob2 = some (ysAll.map YD.val, true)
def RunD (w : World) : Prop := ∀ os : OsState, (lawEnd w os).map ob3 = some (fnAll.map He.DefD.val, tsAll.map fun t => some (He.keysIn w.params t.2))
theorem runA_f (w : World) : RunA (w.withFollow "special-get-raises" false) := by
  intro os
  kernel_rfl
theorem runA_t (w : World) : RunA (w.withFollow "special-get-raises" true) := by
  intro os
  kernel_rfl
theorem runS_f (w : World) : RunS (w.withFollow "special-get-raises" false) := by
  intro os
  kernel_rfl
theorem runS_t (w : World) : RunS (w.withFollow "special-get-raises" true) := by
  intro os
  kernel_rfl
theorem runB_f (w : World) : RunB (w.withFollow "special-get-raises" false) := by
  intro os
  kernel_rfl
theorem runB_t (w : World) : RunB (w.withFollow "special-get-raises" true) := by
  intro os
  kernel_rfl
theorem runE_f (w : World) : RunE (w.withFollow "special-get-raises" false) := by
  intro os
  kernel_rfl
theorem runE_t (w : World) : RunE (w.withFollow "special-get-raises" true) := by
  intro os
  kernel_rfl
theorem runC_f (w : World) : RunC (w.withFollow "special-get-raises" false) := by
  intro os
  kernel_rfl
theorem runC_t (w : World) : RunC (w.withFollow "special-get-raises" true) := by
  intro os
  kernel_rfl
theorem runD_f (w : World) : RunD (w.withFollow "special-get-raises" false) := by
  intro os
  kernel_rfl
theorem runD_t (w : World) : RunD (w.withFollow "special-get-raises" true) := by
  intro os
  kernel_rfl
end AG
set_option maxHeartbeats 4000000
namespace AG
open PySem
open Sem (wp)
/-! ### what sleeps keeps asleep: runs beside a sleeping generator -/
/-- a sleeper that nobody can wake -/
def frz : GenState → GenState
  | .suspended _ l c p fs cl => .suspended (fun _ => .unsupported "") l c p fs cl
  | x => x
def isSusp : GenState → Bool
  | .suspended .. => true
  | _ => false
theorem frz_seen (x : GenState) : (frz x).seen = x.seen := by cases x <;> rfl
theorem frz_bare (x : GenState) : (frz x).bare = x.bare := by cases x <;> rfl
def cleanG : GenState → Prop
  | .suspended _ _ _ _ fs _ => splitAtGen fs = none
  | _ => True
def cleanE : End → Prop
  | .susp _ _ _ _ _ _ fs => splitAtGen fs = none
  | .ret _ => True
theorem cleanE.gen {e : End} (h : cleanE e) : cleanG e.genState := by
  cases e with
  | ret r => exact trivial
  | susp => exact h
theorem split_app : ∀ {a b : List Frame}, splitAtGen a = none → splitAtGen b = none → splitAtGen (a ++ b) = none
  | [], _, _, h => h
  | .gen .. :: _, _, h, _ => by cases h
  | .ret .. :: r, b, h, k => by
    have h : (splitAtGen r).map _ = none := h
    rw [Option.map_eq_none_iff] at h
    show (splitAtGen (r ++ b)).map _ = none
    rw [split_app h k]
    rfl
theorem split_tail {k : Result → Sem PySem.Fin} {h g l c p kp} {fs : List Frame} (x : splitAtGen (.ret k h g l c p kp :: fs) = none) : splitAtGen fs = none := by
  have x : (splitAtGen fs).map _ = none := x
  rwa [Option.map_eq_none_iff] at x
/-- s beside s': the same but for those of F, which sleep in both, and cannot wake in s' -/
structure Sim (F : Nat → Option GenState) (s s' : Shared) : Prop where
  heap : s'.heap = s.heap
  drawn : s'.drawn = s.drawn
  toks : s'.toks = s.toks
  os : s'.os = s.os
  size : s'.gens.size = s.gens.size
  fro : ∀ i x, F i = some x → s.gens[i]? = some x ∧ s'.gens[i]? = some (frz x) ∧ isSusp x = true
  oth : ∀ i, F i = none → s'.gens[i]? = s.gens[i]? ∧ ∀ x, s.gens[i]? = some x → cleanG x
section
variable {F : Nat → Option GenState} {s s' : Shared}
theorem Sim.to (h : Sim F s s') (hp : Heap) (d : Drawn) (t : Nat) (o : OsState) : Sim F { s with heap := hp, drawn := d, toks := t, os := o } { s' with heap := hp, drawn := d, toks := t, os := o } := ⟨rfl, rfl, rfl, rfl, h.size, h.fro, h.oth⟩
theorem Sim.set (h : Sim F s s') {g : Nat} {x : GenState} (n : F g = none) (c : cleanG x) : Sim F (s.setGen g x) (s'.setGen g x) := by
  refine ⟨h.heap, h.drawn, h.toks, h.os, by rw [GenW.setGen_size, GenW.setGen_size, h.size], fun i y e => ?_, fun i e => ?_⟩
  · have ne : g ≠ i := fun z => by rw [z, e] at n; cases n
    obtain ⟨a, b, c⟩ := h.fro i y e
    refine ⟨?_, ?_, c⟩
    · show (s.gens.setIfInBounds g x)[i]? = _
      rw [Array.getElem?_setIfInBounds_ne ne]
      exact a
    · show (s'.gens.setIfInBounds g x)[i]? = _
      rw [Array.getElem?_setIfInBounds_ne ne]
      exact b
  · obtain ⟨a, b⟩ := h.oth i e
    have e1 : (s.setGen g x).gens[i]? = if g = i then (if i < s.gens.size then some x else none) else s.gens[i]? := by
      show (s.gens.setIfInBounds g x)[i]? = _
      rw [Array.getElem?_setIfInBounds]
      split
      · rename_i z
        rw [z]
      · rfl
    have e2 : (s'.setGen g x).gens[i]? = if g = i then (if i < s'.gens.size then some x else none) else s'.gens[i]? := by
      show (s'.gens.setIfInBounds g x)[i]? = _
      rw [Array.getElem?_setIfInBounds]
      split
      · rename_i z
        rw [z]
      · rfl
    rw [e1, e2, h.size, a]
    refine ⟨rfl, fun y hy => ?_⟩
    split at hy
    · split at hy
      · cases hy
        exact c
      · cases hy
    · exact b y hy
theorem Sim.push (h : Sim F s s') {x : GenState} (c : cleanG x) : Sim F { s with gens := s.gens.push x } { s' with gens := s'.gens.push x } := by
  refine ⟨h.heap, h.drawn, h.toks, h.os, by rw [Array.size_push, Array.size_push, h.size], fun i y e => ?_, fun i e => ?_⟩
  · obtain ⟨a, b, c⟩ := h.fro i y e
    have l := (Array.getElem?_eq_some_iff.mp a).1
    refine ⟨?_, ?_, c⟩
    · show (s.gens.push x)[i]? = _
      rw [Array.getElem?_push, if_neg (Nat.ne_of_lt l)]
      exact a
    · show (s'.gens.push x)[i]? = _
      rw [Array.getElem?_push, if_neg (by rw [h.size]; exact Nat.ne_of_lt l)]
      exact b
  · obtain ⟨a, b⟩ := h.oth i e
    have e1 : ({ s with gens := s.gens.push x } : Shared).gens[i]? = if i = s.gens.size then some x else s.gens[i]? := Array.getElem?_push
    have e2 : ({ s' with gens := s'.gens.push x } : Shared).gens[i]? = if i = s'.gens.size then some x else s'.gens[i]? := Array.getElem?_push
    rw [e1, e2, h.size, a]
    refine ⟨rfl, fun y hy => ?_⟩
    split at hy
    · cases hy
      exact c
    · exact b y hy
theorem Sim.gen (h : Sim F s s') {g : Nat} {x : GenState} (e : s'.gens[g]? = some x) : (∃ y, F g = some y ∧ s.gens[g]? = some y ∧ x = frz y ∧ isSusp y = true) ∨ (F g = none ∧ s.gens[g]? = some x ∧ cleanG x) := by
  cases f : F g with
  | some y =>
    obtain ⟨a, b, c⟩ := h.fro g y f
    rw [e] at b
    cases b
    exact .inl ⟨y, rfl, a, rfl, c⟩
  | none =>
    obtain ⟨a, b⟩ := h.oth g f
    rw [e] at a
    exact .inr ⟨rfl, a.symm, b x a.symm⟩
theorem frz_susp {y : GenState} (h : isSusp y = true) : ∃ l c p fs cl, frz y = .suspended (fun _ => .unsupported "") l c p fs cl := by
  cases y with
  | suspended k l c p fs cl => exact ⟨l, c, p, fs, cl, rfl⟩
  | _ => cases h
end
section
variable {M : Model}
theorem no_unsup {Γ : Ctx} {p : Pos} {t : Sem PySem.Fin} {fs : List Frame} {s s' : Shared} {e : End} (h : Runs M Γ p t fs s e s') : ∀ w, t ≠ .unsupported w := by
  induction h with
  | segRet _ _ ih _ => exact ih
  | segGen _ _ ih _ => exact ih
  | segSuspOut _ _ ih => exact ih
  | segSuspGen _ _ _ _ ih _ => exact ih
  | _ => intro w z; cases z
theorem sim_runs {F : Nat → Option GenState} {Γ : Ctx} {p : Pos} {t : Sem PySem.Fin} {fs : List Frame} {s' s1' : Shared} {e : End} (h : Runs M Γ p t fs s' e s1') : ∀ s, Sim F s s' → splitAtGen fs = none → ∃ s1, Runs M Γ p t fs s e s1 ∧ Sim F s1 s1' ∧ cleanE e := by
  induction h with
  | done => exact fun s z _ => ⟨s, .done, z, trivial⟩
  | raise => exact fun s z _ => ⟨s, .raise, z, trivial⟩
  | again q _ ih => exact fun s z c => let ⟨s1, r, y, d⟩ := ih s z c; ⟨s1, .again q r, y, d⟩
  | rule _ ih => exact fun s z c => let ⟨s1, r, y, d⟩ := ih s z c; ⟨s1, .rule r, y, d⟩
  | «at» _ ih => exact fun s z c => let ⟨s1, r, y, d⟩ := ih s z c; ⟨s1, .at r, y, d⟩
  | load q _ ih => exact fun s z c => let ⟨s1, r, y, d⟩ := ih s z c; ⟨s1, .load (by rw [← z.heap]; exact q) r, y, d⟩
  | update q _ ih =>
    intro s z c
    rw [z.heap] at q ih
    obtain ⟨s1, r, y, d⟩ := ih { s with heap := s.heap.update _ _ } ⟨rfl, z.drawn, z.toks, z.os, z.size, z.fro, z.oth⟩ c
    exact ⟨s1, .update q r, y, d⟩
  | loadIfAlive _ ih =>
    intro s z c
    rw [z.heap] at ih
    obtain ⟨s1, r, y, d⟩ := ih s z c
    exact ⟨s1, .loadIfAlive r, y, d⟩
  | point _ ih => exact fun s z c => let ⟨s1, r, y, d⟩ := ih s z c; ⟨s1, .point r, y, d⟩
  | alloc _ ih =>
    intro s z c
    rw [z.heap] at ih
    obtain ⟨s1, r, y, d⟩ := ih { s with heap := s.heap.push _ } ⟨rfl, z.drawn, z.toks, z.os, z.size, z.fro, z.oth⟩ c
    exact ⟨s1, .alloc r, y, d⟩
  | fresh _ ih =>
    intro s z c
    rw [z.toks] at ih
    obtain ⟨s1, r, y, d⟩ := ih { s with toks := s.toks + 1 } ⟨z.heap, z.drawn, rfl, z.os, z.size, z.fro, z.oth⟩ c
    exact ⟨s1, .fresh r, y, d⟩
  | ask _ ih => exact fun s z c => let ⟨s1, r, y, d⟩ := ih s z c; ⟨s1, .ask r, y, d⟩
  | choose q _ ih =>
    intro s z c
    rw [z.drawn] at ih
    obtain ⟨s1, r, y, d⟩ := ih { s with drawn := s.drawn.bump _ } ⟨z.heap, rfl, z.toks, z.os, z.size, z.fro, z.oth⟩ c
    exact ⟨s1, .choose q r, y, d⟩
  | os _ ih =>
    intro s z c
    rw [z.os] at ih
    obtain ⟨s1, r, y, d⟩ := ih { s with os := (Os.step s.os _).1 } ⟨z.heap, z.drawn, z.toks, rfl, z.size, z.fro, z.oth⟩ c
    exact ⟨s1, .os r, y, d⟩
  | handled _ ih => exact fun s z c => let ⟨s1, r, y, d⟩ := ih s z c; ⟨s1, .handled r, y, d⟩
  | genState q _ ih =>
    intro s z c
    obtain ⟨s1, r, y, d⟩ := ih s z c
    rcases z.gen q with ⟨w, _, h1, e, _⟩ | ⟨_, h1, _⟩
    · rw [e, frz_seen] at r
      exact ⟨s1, .genState h1 r, y, d⟩
    · exact ⟨s1, .genState h1 r, y, d⟩
  | stack _ ih => exact fun s z c => let ⟨s1, r, y, d⟩ := ih s z c; ⟨s1, .stack r, y, d⟩
  | thread _ ih => exact fun s z c => let ⟨s1, r, y, d⟩ := ih s z c; ⟨s1, .thread r, y, d⟩
  | newGen _ ih =>
    intro s z c
    obtain ⟨s1, r, y, d⟩ := ih _ (z.push (x := .fresh _) trivial) c
    rw [z.size] at r
    exact ⟨s1, .newGen r, y, d⟩
  | call _ _ ih1 ih2 =>
    intro s z c
    obtain ⟨s1, r, y, d⟩ := ih1 s z rfl
    obtain ⟨s2, r2, y2, d2⟩ := ih2 s1 y c
    exact ⟨s2, .call r r2, y2, d2⟩
  | callSusp _ ih =>
    intro s z c
    obtain ⟨s1, r, y, d⟩ := ih s z rfl
    exact ⟨s1, .callSusp r, y, split_app d rfl⟩
  | yield => exact fun s z _ => ⟨s, .yield, z, rfl⟩
  | resumeFresh q _ qu _ ih1 ih2 =>
    intro s z c
    rcases z.gen q with ⟨w, _, _, e, sw⟩ | ⟨n, h1, _⟩
    · obtain ⟨_, _, _, _, _, e2⟩ := frz_susp sw
      rw [e2] at e
      cases e
    · obtain ⟨s1, r, y, d⟩ := ih1 _ (z.set (x := .running) n trivial) rfl
      obtain ⟨s2, r2, y2, d2⟩ := ih2 _ (y.set n d.gen) c
      exact ⟨s2, .resumeFresh h1 r qu r2, y2, d2⟩
  | resumeSuspended q r0 qu _ ih1 ih2 =>
    intro s z c
    rcases z.gen q with ⟨w, _, _, e, sw⟩ | ⟨n, h1, cl⟩
    · obtain ⟨_, _, _, _, _, e2⟩ := frz_susp sw
      rw [e2] at e
      cases e
      exact absurd rfl (no_unsup r0 "")
    · obtain ⟨s1, r, y, d⟩ := ih1 _ (z.set (x := .running) n trivial) cl
      obtain ⟨s2, r2, y2, d2⟩ := ih2 _ (y.set n d.gen) c
      exact ⟨s2, .resumeSuspended h1 r qu r2, y2, d2⟩
  | resumeJustStarted q nv _ ih =>
    intro s z c
    obtain ⟨s1, r, y, d⟩ := ih s z c
    rcases z.gen q with ⟨w, _, _, e, sw⟩ | ⟨n, h1, _⟩
    · obtain ⟨_, _, _, _, _, e2⟩ := frz_susp sw
      rw [e2] at e
      cases e
    · exact ⟨s1, .resumeJustStarted h1 nv r, y, d⟩
  | resumeThrowFresh q _ ih =>
    intro s z c
    rcases z.gen q with ⟨w, _, _, e, sw⟩ | ⟨n, h1, _⟩
    · obtain ⟨_, _, _, _, _, e2⟩ := frz_susp sw
      rw [e2] at e
      cases e
    · obtain ⟨s1, r, y, d⟩ := ih _ (z.set (x := .finished) n trivial) c
      exact ⟨s1, .resumeThrowFresh h1 r, y, d⟩
  | resumeRunning q _ ih =>
    intro s z c
    obtain ⟨s1, r, y, d⟩ := ih s z c
    rcases z.gen q with ⟨w, _, _, e, sw⟩ | ⟨n, h1, _⟩
    · obtain ⟨_, _, _, _, _, e2⟩ := frz_susp sw
      rw [e2] at e
      cases e
    · exact ⟨s1, .resumeRunning h1 r, y, d⟩
  | resumeFinished q _ ih =>
    intro s z c
    obtain ⟨s1, r, y, d⟩ := ih s z c
    rcases z.gen q with ⟨w, _, _, e, sw⟩ | ⟨n, h1, _⟩
    · obtain ⟨_, _, _, _, _, e2⟩ := frz_susp sw
      rw [e2] at e
      cases e
    · exact ⟨s1, .resumeFinished h1 r, y, d⟩
  | segRet _ _ ih1 ih2 =>
    intro s z c
    obtain ⟨s1, r, y, d⟩ := ih1 s z rfl
    obtain ⟨s2, r2, y2, d2⟩ := ih2 s1 y (split_tail c)
    exact ⟨s2, .segRet r r2, y2, d2⟩
  | segGen => exact fun s z c => by cases c
  | segSuspOut q _ ih =>
    intro s z c
    obtain ⟨s1, r, y, d⟩ := ih s z rfl
    exact ⟨s1, .segSuspOut q r, y, split_app d q⟩
  | segSuspGen q => exact fun s z c => by rw [c] at q; cases q
theorem sim_wp {F : Nat → Option GenState} {α : Type} {Γ : Ctx} (t : Sem α) : ∀ (Q : α → Pos → Shared → Prop) (E : Value → Pos → Shared → Prop) (p : Pos) (s s' : Shared), Sim F s s' → wp M Γ t Q E p s' →
    wp M Γ t (fun a p' s1 => ∃ s1', Sim F s1 s1' ∧ Q a p' s1') (fun a p' s1 => ∃ s1', Sim F s1 s1' ∧ E a p' s1') p s := by
  induction t with
  | pure a => exact fun Q E p s s' z h => ⟨s', z, h⟩
  | raise a => exact fun Q E p s s' z h => ⟨s', z, h⟩
  | unsupported => exact fun Q E p s s' z h => h
  | finish => exact fun Q E p s s' z h => h
  | register => exact fun Q E p s s' z h => h
  | yield => exact fun Q E p s s' z h => h
  | fork => exact fun Q E p s s' z h => h
  | await => exact fun Q E p s s' z h => h
  | rule _ k ih => exact fun Q E p s s' z h => ih () Q E p s s' z h
  | «at» p' k ih => exact fun Q E p s s' z h => ih () Q E p' s s' z h
  | point _ k ih => exact fun Q E p s s' z h => ih () Q E p s s' z h
  | ask k ih => exact fun Q E p s s' z h => ih _ Q E p s s' z h
  | handled _ k ih => exact fun Q E p s s' z h => ih _ Q E p s s' z h
  | stack k ih => exact fun Q E p s s' z h => ih _ Q E p s s' z h
  | thread k ih => exact fun Q E p s s' z h => ih _ Q E p s s' z h
  | load a _ k ih =>
    intro Q E p s s' z h
    obtain ⟨o, q, h⟩ := h
    exact ⟨o, by rw [← z.heap]; exact q, ih o Q E p s s' z h⟩
  | update a _ f k ih =>
    intro Q E p s s' z h
    obtain ⟨q, h⟩ := h
    rw [z.heap] at q h
    exact ⟨q, ih () Q E p _ { s' with heap := s.heap.update a f } ⟨rfl, z.drawn, z.toks, z.os, z.size, z.fro, z.oth⟩ h⟩
  | loadIfAlive a k ih =>
    intro Q E p s s' z h
    have h : wp M Γ (k (s'.heap.get? a)) Q E p s' := h
    rw [z.heap] at h
    exact ih _ Q E p s s' z h
  | alloc o k ih =>
    intro Q E p s s' z h
    have h : wp M Γ (k s'.heap.objs.size) Q E p { s' with heap := s'.heap.push o } := h
    rw [z.heap] at h
    exact ih _ Q E p { s with heap := s.heap.push o } { s' with heap := s.heap.push o } ⟨rfl, z.drawn, z.toks, z.os, z.size, z.fro, z.oth⟩ h
  | fresh k ih =>
    intro Q E p s s' z h
    have h : wp M Γ (k s'.toks) Q E p { s' with toks := s'.toks + 1 } := h
    rw [z.toks] at h
    exact ih _ Q E p { s with toks := s.toks + 1 } { s' with toks := s.toks + 1 } ⟨z.heap, z.drawn, rfl, z.os, z.size, z.fro, z.oth⟩ h
  | choose src n k ih =>
    intro Q E p s s' z h
    obtain ⟨q, h⟩ := h
    rw [z.drawn] at h
    exact ⟨q, ih _ Q E p { s with drawn := s.drawn.bump src } { s' with drawn := s.drawn.bump src } ⟨z.heap, rfl, z.toks, z.os, z.size, z.fro, z.oth⟩ h⟩
  | os q _ k ih =>
    intro Q E p s s' z h
    have h : wp M Γ (k (Os.step s'.os q).2) Q E p { s' with os := (Os.step s'.os q).1 } := h
    rw [z.os] at h
    exact ih _ Q E p { s with os := (Os.step s.os q).1 } { s' with os := (Os.step s.os q).1 } ⟨z.heap, z.drawn, z.toks, rfl, z.size, z.fro, z.oth⟩ h
  | call c hd _ _ k ih =>
    intro Q E p s s' z h
    obtain ⟨r, s1', hr, h⟩ := h
    obtain ⟨s1, hr2, z2, _⟩ := sim_runs hr s z rfl
    exact ⟨r, s1, hr2, ih r Q E p s1 s1' z2 h⟩
  | genState g k ih =>
    intro Q E p s s' z h
    obtain ⟨st, q, h⟩ := h
    rcases z.gen q with ⟨w, _, h1, e, _⟩ | ⟨_, h1, _⟩
    · rw [e, frz_seen] at h
      exact ⟨w, h1, ih _ Q E p s s' z h⟩
    · exact ⟨st, h1, ih _ Q E p s s' z h⟩
  | newGen c k ih =>
    intro Q E p s s' z h
    have h : wp M Γ (k s'.gens.size) Q E p { s' with gens := s'.gens.push (.fresh c) } := h
    rw [z.size] at h
    exact ih _ Q E p _ _ (z.push (x := .fresh c) trivial) h
  | resume g r _ k ih =>
    intro Q E p s s' z h
    obtain ⟨res, s1', hw, h⟩ := h
    unfold Wakes at hw
    cases q : s'.gens[g]? with
    | none =>
      rw [q] at hw
      exact hw.elim
    | some st =>
      rw [q] at hw
      rcases z.gen q with ⟨w, _, _, e, sw⟩ | ⟨n, h1, cl⟩
      · obtain ⟨_, _, _, _, _, e2⟩ := frz_susp sw
        rw [e, e2] at hw
        obtain ⟨_, _, hr, _⟩ := hw
        exact absurd rfl (no_unsup hr "")
      · suffices hs : ∃ s1, Wakes M Γ p g r s res s1 ∧ Sim F s1 s1' by
          obtain ⟨s1, hw1, z1⟩ := hs
          exact ⟨res, s1, hw1, ih res Q E p s1 s1' z1 h⟩
        unfold Wakes
        rw [h1]
        cases st with
        | fresh c =>
          cases r with
          | send v =>
            cases v with
            | none =>
              obtain ⟨e1, s2, hr, qu, rs, rfl⟩ := hw
              obtain ⟨s3, hr3, z3, d3⟩ := sim_runs hr _ (z.set (x := .running) n trivial) rfl
              exact ⟨_, ⟨e1, s3, hr3, qu, rs, rfl⟩, z3.set n d3.gen⟩
            | _ =>
              obtain ⟨rs, rfl⟩ := hw
              exact ⟨s, ⟨rs, rfl⟩, z⟩
          | throw x =>
            obtain ⟨rs, rfl⟩ := hw
            exact ⟨_, ⟨rs, rfl⟩, z.set (x := .finished) n trivial⟩
        | suspended k0 l0 c0 p0 fs cl0 =>
          obtain ⟨e1, s2, hr, qu, rs, rfl⟩ := hw
          obtain ⟨s3, hr3, z3, d3⟩ := sim_runs hr _ (z.set (x := .running) n trivial) cl
          exact ⟨_, ⟨e1, s3, hr3, qu, rs, rfl⟩, z3.set n d3.gen⟩
        | running =>
          obtain ⟨rs, rfl⟩ := hw
          exact ⟨s, ⟨rs, rfl⟩, z⟩
        | finished =>
          obtain ⟨rs, rfl⟩ := hw
          exact ⟨s, ⟨rs, rfl⟩, z⟩
/-- who sleeps in s -/
def sleepers (s : Shared) : Nat → Option GenState := fun i => match s.gens[i]? with
  | some x => if isSusp x = true then some x else none
  | none => none
theorem sim_start (s : Shared) : Sim (sleepers s) s { s with gens := s.gens.map frz } := by
  refine ⟨rfl, rfl, rfl, rfl, Array.size_map .., fun i x e => ?_, fun i e => ?_⟩
  · unfold sleepers at e
    cases q : s.gens[i]? with
    | none => rw [q] at e; cases e
    | some y =>
      rw [q] at e
      dsimp only at e
      split at e
      · rename_i sy
        cases e
        exact ⟨rfl, by show (s.gens.map frz)[i]? = _; rw [Array.getElem?_map, q]; rfl, sy⟩
      · cases e
  · unfold sleepers at e
    cases q : s.gens[i]? with
    | none => exact ⟨by show (s.gens.map frz)[i]? = _; rw [Array.getElem?_map, q]; rfl, fun x z => by cases z⟩
    | some y =>
      rw [q] at e
      dsimp only at e
      split at e
      · cases e
      · rename_i sy
        refine ⟨by
          show (s.gens.map frz)[i]? = _
          rw [Array.getElem?_map, q]
          cases y with
          | suspended => exact absurd rfl sy
          | _ => rfl, fun x z => ?_⟩
        cases z
        cases y with
        | suspended => exact absurd rfl sy
        | _ => exact trivial
open PyProof.Rows in
theorem bare_back {F : Nat → Option GenState} {s s' : Shared} (z : Sim F s s') (h : AllBare s'.gens) : AllBare s.gens := fun y hy => by
  obtain ⟨i, hi, e⟩ := Array.mem_iff_getElem.mp hy
  have e : s.gens[i]? = some y := by rw [Array.getElem?_eq_getElem hi, e]
  cases f : F i with
  | some x =>
    obtain ⟨a, b, _⟩ := z.fro i x f
    rw [e] at a
    cases a
    rw [← frz_bare]
    exact h _ (Array.mem_of_getElem? b)
  | none =>
    obtain ⟨a, _⟩ := z.oth i f
    rw [e] at a
    exact h y (Array.mem_of_getElem? a)
open PyProof.Rows in
theorem bare_frz {s : Shared} (h : AllBare s.gens) : AllBare (s.gens.map frz) := fun y hy => by
  obtain ⟨x, hx, rfl⟩ := Array.mem_map.mp hy
  rw [frz_bare]
  exact h x hx
open PyProof.Rows in
/-- what is shown of a state whose sleepers cannot wake holds of the state, and they sleep on -/
theorem asleep {α : Type} {A : Around} {t : Sem α} {Q : α → Shared → Prop} {E : Value → Shared → Prop} {s : Shared} {g : Nat} {x : GenState} (hg : s.gens[g]? = some x) (hx : isSusp x = true) (h : wpAny M A t Q E { s with gens := s.gens.map frz }) :
    wpAny M A t (fun a s1 => s1.gens[g]? = some x ∧ ∃ G, Q a { s1 with gens := G } ∧ (AllBare G → AllBare s1.gens)) (fun a s1 => ∃ G, E a { s1 with gens := G } ∧ (AllBare G → AllBare s1.gens)) s := fun Γ p hΓ => by
  refine Sem.wp_mono M Γ t (fun a p' s1 ⟨s1', z, q⟩ => ⟨?_, s1'.gens, ?_, bare_back z⟩) (fun a p' s1 ⟨s1', z, q⟩ => ⟨s1'.gens, ?_, bare_back z⟩) p s (sim_wp t _ _ p s _ (sim_start s) (h Γ p hΓ))
  · refine (z.fro g x ?_).1
    unfold sleepers
    rw [hg]
    show (if isSusp x = true then some x else none) = some x
    rw [if_pos hx]
  · have e : ({ s1 with gens := s1'.gens } : Shared) = s1' := by
      cases s1
      cases s1'
      simp only [Shared.mk.injEq]
      exact ⟨z.heap.symm, trivial, z.drawn.symm, z.toks.symm, z.os.symm⟩
    rw [e]
    exact q
  · have e : ({ s1 with gens := s1'.gens } : Shared) = s1' := by
      cases s1
      cases s1'
      simp only [Shared.mk.injEq]
      exact ⟨z.heap.symm, trivial, z.drawn.symm, z.toks.symm, z.os.symm⟩
    rw [e]
    exact q
end
end AG
namespace AG
open PySem PySem.Spec PyProof.Rows L2 GenW
/-! ### a generator that is woken by whoever does as he likes between -/
section
variable {M : Model} {A : Around} {R : GenEnd} {Y : Protocol} {n : Nat} {E : Value → Shared → Prop} {s : Shared} {g : Nat} {gs : GenState}
theorem woken {r : Resume} {l : List Value} {α : Type} {k : GenResult → Sem α} {Q : α → Shared → Prop} (hg : s.gens[g]? = some gs) (go : gs.Goes M A R Y n r (s.setGen g .running))
    (hR : ∀ x z, R n (s.setGen g .running) x z → wpAny M A (k (End.ret x).result) Q E (z.setGen g .finished))
    (hY : ∀ v z gs', isSusp gs' = true → gs'.bare = true → Y (n - 1) (s.setGen g .running) v z (fun r' z' => match (generalizing := false) n with | 0 => False | m + 1 => gs'.Goes M A R Y m r' z') → wpAny M A (k (.yielded v)) Q E (z.setGen g gs')) :
    wpAny M A (.resume g r l k) Q E s := fun Γ p hΓ => by
  rw [Sem.wp_resume]
  have all : ∀ (e : End) (z : Shared), SegEnd R Y n (Seg.next M A R Y n) (s.setGen g .running) e z → e.quiet = true ∧ Sem.wp M Γ (k e.result) (fun a _ x => Q a x) (fun a _ x => E a x) p (z.setGen g e.genState) := fun e z h => by
    cases e with
    | ret x => exact ⟨rfl, hR x z h Γ p hΓ⟩
    | susp v gd lv kk cc pp ff =>
      refine ⟨h.1, hY v z _ rfl (End.bare_of_quiet h.1) ?_ Γ p hΓ⟩
      cases n <;> exact h.2
  have made : ∀ (c : Code) (pp : Pos) (t : Sem PySem.Fin) (ff : List Frame), Seg M A R Y n (s.setGen g .running) c t ff (s.setGen g .running) → ∃ e z, Runs M (Γ.wake c p) pp t ff (s.setGen g .running) e z ∧ SegEnd R Y n (Seg.next M A R Y n) (s.setGen g .running) e z := fun c pp t ff h => seg_iff.mp h (Γ.wake c p) pp rfl (hΓ.wake c p)
  cases gs with
  | fresh c =>
    obtain ⟨rfl, hs⟩ := go
    obtain ⟨e, z, h1, h2⟩ := made c p _ _ hs
    obtain ⟨h3, h4⟩ := all e z h2
    exact ⟨_, _, (by
      unfold Wakes
      rw [hg]
      exact ⟨e, z, h1, h3, rfl, rfl⟩), h4⟩
  | suspended kk lv c pp ff cl =>
    obtain ⟨e, z, h1, h2⟩ := made c pp _ _ go
    obtain ⟨h3, h4⟩ := all e z h2
    exact ⟨_, _, (by
      unfold Wakes
      rw [hg]
      exact ⟨e, z, h1, h3, rfl, rfl⟩), h4⟩
  | running => exact go.elim
  | finished => exact go.elim
end
section
variable {P : Program} {w : World} {A : Around} {E : Value → Shared → Prop} {s : Shared}
/-- next(g), g not at its end, or at it: it raises nothing of its own -/
theorem next_free {a : Addr} {g n : Nat} {gs : GenState} {F : Nat → Shared → Shared → Prop} {Y : Protocol} {Q : Option Value → Shared → Prop} (hh : A.handled = none) (lim : s.heap.NoLimit) (room : A.depth < recursionLimit) (ga : s.heap.IsGen a g) (hgs : s.gens[g]? = some gs)
    (go : gs.Goes (model P w) A.in1 (fun n z r z1 => r = .ok (.ret .none) ∧ F n z z1) Y n (.send .none) (s.setGen g .running))
    (hY : ∀ v z gs', isSusp gs' = true → gs'.bare = true → Y (n - 1) (s.setGen g .running) v z (fun r' z' => match (generalizing := false) n with
        | 0 => False
        | m + 1 => gs'.Goes (model P w) A.in1 (fun n z r z1 => r = .ok (.ret .none) ∧ F n z z1) Y m r' z') → Q (some v) (z.setGen g gs'))
    (hF : ∀ z, F n (s.setGen g .running) z → ∀ h', (∀ b o, z.heap.get? b = some o → h'.get? b = some o) → Q none { z.setGen g .finished with heap := h' }) : wpAny (model P w) A (pyNext (.ref a)) Q E s := by
  unfold pyNext
  refine wpAny_bind (wpAny_attempt (wpAny_callSpecial?_slot (name := Str.ofString "__next__") ga.typeIs slot_gen_next (wpAny_call_entry slot_gen_next ga.typeIs entry_gen_next ?_ (args_gen_next _))))
  show wpAny (model P w) A.in1 (Builtin.Generator.genWake (.ref a) (.send .none)) _ _ s
  unfold Builtin.Generator.genWake; refine wpAny_bind (wpAny_holding (wpAny_genNumber ga (wpAny_bind (wpAny_genState hgs ?_))))
  cases gs with
  | running => exact go.elim
  | finished => exact go.elim
  | _ =>
  refine wpAny_bind (wpAny_roomToWake lim room ?_)
  show wpAny _ A.in1 (Sem.resume g (.send .none) [] _) _ _ s
  refine woken hgs go (fun x z hx => ?_) fun v z gs' hs hb hv => ?_
  · obtain ⟨rfl, hf⟩ := hx
    show wpAny _ A.in1 (newExc (.type "StopIteration") [] >>= _) _ _ _
    refine wpAny_bind ?_
    simp only [newExc, newTuple]
    refine wpAny_bind (wpAny_newObj_type ?_ (by size_fits)); refine wpAny_bind (m := firstArgMember _ _) (wpAny_of_eq (a := Value.none) (by first | rfl | (simp only [firstArgMember]; rfl)) ?_); refine wpAny_newObj_type ?_ (by size_fits)
    simp only [raiseNew]
    refine wpAny_bind (wpAny_bind (wpAny_handled ?_))
    first | rw [show A.in1.handled = none from hh] | rw [hh]
    refine wpAny_throw ?_
    refine wpAny_bind (wpAny_isInstance (b := true) (T := "StopIteration") ⟨_, Heap.get?_push_size _ rfl, rfl⟩ isSubtype_stop ?_)
    exact wpAny_pure (hF z hf _ fun b o q => Heap.get?_push_of_some _ (Heap.get?_push_of_some _ q))
  · exact wpAny_pure ⟨v, rfl, wpAny_pure (hY v z gs' hs hb hv)⟩
end
/-! ### yield from a tuple -/
def Moved (it : Addr) (s s1 : Shared) : Prop := ∃ h tk, s1 = { s with heap := h, toks := tk } ∧ ∀ b o, b ≠ it → s.heap.get? b = some o → h.get? b = some o
theorem Moved.refl {it : Addr} (s : Shared) : Moved it s s := ⟨s.heap, s.toks, rfl, fun _ _ _ e => e⟩
theorem Moved.more {it : Addr} {s s1 : Shared} (m : Moved it s s1) {h : Heap} {tk : Nat} (k : ∀ b o, b ≠ it → s1.heap.get? b = some o → h.get? b = some o) : Moved it s { s1 with heap := h, toks := tk } := by
  obtain ⟨h1, t1, rfl, k1⟩ := m
  exact ⟨h, tk, rfl, fun b o n e => k b o n (k1 b o n e)⟩
/-- t holds xs in the heap -/
def TupV (h : Heap) (t : Addr) (xs : List V) : Prop := ∃ its : List Value, Vals xs its ∧ IsTup h t its.toArray
def YP (it t : Addr) (xs : List V) (N : Nat) : Protocol := fun n s v s1 kap => ∃ j x, n + 1 + j = N ∧ xs[j]? = some x ∧ RelV x v ∧ Moved it s s1 ∧ IsTupIter s1.heap it t (j + 1) ∧ ∀ s', IsTupIter s'.heap it t (j + 1) → TupV s'.heap t xs → kap (.send .none) s'
abbrev FP (it : Addr) (xs : List V) (N : Nat) : Nat → Shared → Shared → Prop := fun n s s1 => n + xs.length = N ∧ Moved it s s1
abbrev RP (it : Addr) (xs : List V) (N : Nat) : GenEnd := fun n s r s1 => r = .ok (.ret .none) ∧ FP it xs N n s s1
section
variable {P : Program} {w : World} {A : Around} {fs : List Frame} {it t : Addr} {xs : List V} {N : Nat}
abbrev cYf (it : Addr) : Code := .builtin "proto.yield_from" ⟨[.ref it, .bool false, .none], []⟩
theorem den_yf' : (model P w).den (cYf it) = Builtin.«proto.yield_from» ⟨[.ref it, .bool false, .none], []⟩ := by
  show (match entryFor table "proto.yield_from" with
    | some b => b ⟨[.ref it, .bool false, .none], []⟩
    | none => unsupported ((withoutEnding? "proto.yield_from" "#data").getD "proto.yield_from")) = _
  rw [entry_yf]
theorem seg_turns (ne : t ≠ it) (ho : (A.over (cYf it) fs).handled = none) (hsp : splitAtGen fs = none) (hgd : fs.any Frame.guarded = false) (hN : xs.length ≤ N)
    (hend : ∀ n s0 s, n + xs.length = N → Moved it s0 s → Seg (model P w) A (RP it xs N) (YP it t xs N) n s0 (cYf it) (.pure (.done (.ret .none))) fs s) :
    ∀ r j n s0 s, j + r = xs.length → n + j = N → Moved it s0 s → IsTupIter s.heap it t j → TupV s.heap t xs → Seg (model P w) A (RP it xs N) (YP it t xs N) n s0 (cYf it) ((model P w).den (cYf it)) fs s := by
  intro r
  induction r with
  | zero =>
    intro j n s0 s hj hn mv h1 ⟨its, rv, h2⟩
    obtain rfl : j = xs.length := hj
    rw [den_yf']
    unfold Builtin.«proto.yield_from»; try dsimp only
    refine seg_bind (wpAny_pure ?_); try dsimp only
    refine seg_bind (wpAny_attempt (wpAny_holding ?_)); rw [if_neg Bool.false_ne_true, if_pos (show (Value.none == Value.none) = true from rfl)]
    refine wpAny_bind (wpAny_rule (wpAny_bind (special_tup_end ho h1 h2 (by rw [rv.length]; simp) fun e h' hS hk => ?_)))
    obtain ⟨a, o, vs, rfl, hoa, hcls, hdat, h5⟩ := hS
    try dsimp only
    refine seg_bind (wpAny_endsTurn hoa hcls ?_); try dsimp only
    rw [if_pos rfl]; first | refine seg_bind (wpAny_rule ?_) | (rw [if_neg Bool.false_ne_true]; refine seg_bind (wpAny_rule ?_)) | (rw [if_neg Bool.false_ne_true]; refine seg_bind (wpAny_pure ?_); refine seg_bind (wpAny_rule ?_))
    exact seg_bind (wpAny_field hoa hdat h5 (hend n s0 _ hn (mv.more fun b o hb eb => hk b o hb eb)))
  | succ r ih =>
    intro j n s0 s hj hn mv h1 ⟨its, rv, h2⟩
    have lt : j < xs.length := by omega
    obtain ⟨x, hx⟩ : ∃ x, xs[j]? = some x := ⟨xs[j], List.getElem?_eq_getElem lt⟩
    obtain ⟨v, hv, rx⟩ := rv.get hx
    obtain ⟨m, rfl⟩ : ∃ m, n = m + 1 := ⟨n - 1, by omega⟩
    rw [den_yf']
    unfold Builtin.«proto.yield_from»; try dsimp only
    refine seg_bind (wpAny_pure ?_); try dsimp only
    refine seg_bind (wpAny_attempt (wpAny_holding ?_)); rw [if_neg Bool.false_ne_true, if_pos (show (Value.none == Value.none) = true from rfl)]
    refine wpAny_bind (wpAny_rule (wpAny_bind (special_tup_item h1 h2 (x := v) (by simpa using hv) fun h' q1 hs => ?_)))
    have mv1 : Moved it s0 { s with heap := h' } := mv.more (tk := s.toks) fun b o hb eb => hs.extBut b o hb eb
    obtain ⟨oi, hoi, hoc, _⟩ := id q1
    refine wpAny_pure ?_; try dsimp only
    refine seg_bind (wpAny_typeOf (T := "tuple_iterator") ⟨oi, hoi, hoc⟩ ?_); try dsimp only
    first
      | (refine seg_bind (wpAny_of_eq close_tup ?_); refine seg_bind (wpAny_pure ?_))
      | refine seg_bind (wpAny_bind (wpAny_of_eq close_tup (wpAny_pure ?_)))
      | refine seg_bind (wpAny_of_eq close_tup ?_)
    try dsimp only
    refine seg_bind (wpAny_sleptOver hoi hoc (by decide) ?_)
    refine seg_yield hsp rfl hgd ⟨j, x, hn, hx, rx, mv1, q1, fun z y1 y2 => ?_⟩
    obtain ⟨oj, hoj, hojc, _⟩ := id y1
    show Seg _ _ _ _ m z _ (Builtin.Generator.sleptOver (.ref it) false >>= fun _ => _) fs z
    refine seg_bind (wpAny_sleptOver hoj hojc (by decide) ?_); try dsimp only
    refine seg_bind (wpAny_pure ?_)
    exact seg_again (plainId_quiet plain_yf _) (ih (j + 1) m z z (by omega) (by omega) (Moved.refl z) y1 y2)
/-- the body of the def: yield from a tuple that is found without a change -/
theorem seg_body {e : Expr} {yp pos : Pos} {env : Env} {s : Shared} (hi : interactive env = false) (hA : (A.deeper env).handled = none) (hN : xs.length ≤ N) (tup : TupV s.heap t xs)
    (he : ∀ (E : Value → Shared → Prop) (Q : Value → Shared → Prop), (∀ tk, Q (.ref t) { s with toks := tk }) → wpAny (model P w) (A.deeper env) (eval e env) Q E s) :
    Seg (model P w) A (RP s.heap.objs.size xs N) (YP s.heap.objs.size t xs N) N s (.func [.Expr (.YieldFrom e yp) pos] env) ((model P w).den (.func [.Expr (.YieldFrom e yp) pos] env)) [] s := by
  obtain ⟨its, rv, tup⟩ := tup
  have lt : t < s.heap.objs.size := let ⟨o, ho, _⟩ := tup; Heap.lt_size ho
  refine seg_func (seg_execs_cons ?_)
  rw [exec_Expr env _ pos hi rfl]
  refine seg_at ?_
  refine segw_bind2 ?_
  rw [over_func]
  refine he _ _ fun tk => ?_
  have tup1 : IsTup ({ s with toks := tk } : Shared).heap t its.toArray := tup
  refine seg_at ?_
  show Seg _ _ _ _ N s _ ((yieldFrom env (.ref t)).wrap _ _ _ _) [] _
  unfold yieldFrom
  refine seg_bind_wrap (wpAny_typeOf tup1.typeIs ?_)
  rw [if_neg (show ¬ ((Value.type "tuple" == Value.type "coroutine") = true) by decide)]
  refine seg_bind_wrap (wpAny_holding (iter_tuple tup1 ?_))
  refine seg_call fun p => ?_
  have kp : ∀ b o, s.heap.get? b = some o → (s.heap.push { cls := .type "tuple_iterator", data := .fields #[.ref t, .int 0 0] }).get? b = some o := fun b o q => Heap.get?_push_of_some _ q
  refine seg_turns (Nat.ne_of_lt lt) ?_ ?_ ?_ hN (fun n s0 z hn mv => ?_) xs.length 0 N s _ (Nat.zero_add _) rfl ⟨_, _, rfl, fun b o _ q => kp b o q⟩ ⟨_, Heap.get?_push_size _ rfl, rfl, rfl⟩ ⟨its, rv, tup.push _⟩
  · show (A.over (.func [.Expr (.YieldFrom e yp) pos] env) []).handled = none
    rw [over_func]
    exact hA
  · rfl
  · rfl
  · refine seg_leaf (.ok (.ret .none)) ?_
    exact seg_end (.ok (.ret .none)) ⟨rfl, hn, mv⟩
end
end AG
namespace AG
open PySem PySem.Spec PyProof.Rows L2
section
variable {P : Program} {w : World} {K : PySem.W.Frag} {mg : Str → Option Value} {base : Heap} {c : Cs}
/-- is_number(n) -/
def spNumber : Sp := fun vs H Q _ => ∃ n : Int, vs = [.int n] ∧ Q (.bl true) H
theorem sc_is_number : FnScope ["value"] ["value"] (defScope s_is_number) := ⟨rfl, rfl, rfl, by decide +kernel, rfl, by decide +kernel, by decide +kernel⟩
theorem ok_is_number (T : Txt w K mg c) : Def P w K mg base CX0 "is_number" ["value"] 1 spNumber := by
  refine T.d_is_number.def_ sc_is_number (fun vs H Q E ⟨n, e, _⟩ => by rw [e]; rfl) (fun _ _ _ _ _ _ us hl => match us, hl with | [_], _ => rfl) fun f cdv A outer s H vs Q E hr h => ?_
  obtain ⟨n, rfl, q⟩ := h
  refine ⟨_, PSs.nox (pss_one (ps_ret (pe_and (isi .int T.n_isinstance (pa_cons (pv 0) (pa_cons (gty .int T.n_int bb_int) pa_nil))) (pe_one (pe_not (isi .bool T.n_isinstance (pa_cons (pv 0) (pa_cons (gty .bool T.n_bool bb_bool) pa_nil)))))))), ?_⟩
  exact ⟨_, rfl, rfl, .int, .base (.int n), _, rfl, iteT ⟨_, rfl, rfl, .int, .base (.int n), _, rfl, q⟩⟩
/-- is_name(x) of a name -/
def spName : Sp := fun vs H Q _ => ∃ x : Str, vs = [.str x] ∧ NameOk x ∧ ∀ H', Same H H' → Q (.bl true) H'
theorem sc_is_name : FnScope ["value", "sign"] ["value"] (defScope s_is_name) := ⟨rfl, rfl, rfl, by decide +kernel, rfl, by decide +kernel, by decide +kernel⟩
theorem ok_is_name (T : Txt w K mg c) : Def P w K mg base CX0 "is_name" ["value"] 1 spName := by
  refine T.d_is_name.def_ sc_is_name (fun vs H Q E ⟨n, e, _⟩ => by rw [e]; rfl) (fun _ _ _ _ _ _ us hl => match us, hl with | [_], _ => rfl) fun f cdv A outer s H vs Q E hr h => ?_
  obtain ⟨x, rfl, ok, q⟩ := h
  refine ⟨_, PSs.nox (pss_cons (ps_if (PW.pt (pw_or (pt_not (pt_val (isi .str T.n_isinstance (pa_cons (pv 0) (pa_cons (gty .str T.n_str bb_str) pa_nil))))) (pw_or1 (pt_not (pt_chain op_le op_le pe_int (len1 T.n_len (pa_cons (pv 0) pa_nil)) (gcst T.k_MOST_LETTERS)))))) (pss_one (ps_ret pe_bl)) pss_nil)
      (pss_one (ps_ret (all1 rfl T.n_all (pa_cons (pe_lc (own := [("sign", 1)]) rfl sc_is_name.nd (pi_str (pv 0)) (blkOk_by (N := ["value", "sign"]) (sc := (defScope s_is_name)) (by decide +kernel)) (fun _ _ _ _ _ => (pg_name (i := 1) sc_is_name.nd rfl (Or.inl rfl))) (fun _ _ _ _ _ => pts_nil) (fun _ _ _ _ _ => (pe_cmpR op_in_sign (pv 1) (gcst T.k_LETTERS) rfl))) pa_nil))))), ?_⟩
  have h1 := ok.lo
  have h2 := ok.hi
  refine ⟨_, rfl, rfl, .str, .base (.str x), _, rfl, iteF ?_⟩
  refine ⟨_, rfl, _, ⟨ok.size, rfl⟩, _, _, rfl, rfl, _, rfl, ?_⟩
  rw [decide_eq_true (by omega)]
  refine iteT ⟨_, _, rfl, rfl, _, rfl, ?_⟩
  rw [decide_eq_true (by omega)]
  refine iteF ⟨_, rfl, _, rfl, fun D hD => ?_⟩
  refine lc_dat walk_str (Mc := fun _ => False) (Mu := fun _ => False) (fun _ z => z) (Wl.no H) hD (Nat.le_trans ok.hi (by decide)) (fun i => List.replicate i (.bool true)) rfl (fun _ _ => True) trivial (fun _ _ _ _ => trivial) (fun _ _ _ _ => trivial) ?_ ?_
  · rintro i v H0 H1 add skip hi k - - - ⟨rfl, c, hc, rfl⟩ ha -
    refine ⟨rfl, ?_⟩
    refine ⟨_, rfl, _, _, rfl, rfl, ?_⟩
    rw [decide_eq_true (ok.of c (Array.mem_toList_iff.mpr (Array.mem_of_getElem? hc)))]
    exact ha _ _ _ (.refl _) rfl (.bl true) List.replicate_succ' trivial
  · intro H0 xs k hx r _ _
    have e := dats_trues r
    refine ⟨D, _, rfl, by rw [← e]; exact SqL.of hx, ?_⟩
    rw [all_trues]
    exact q _ (k.same fun _ z => z)
/-- is_leaf(f, '') of an atom, of false -/
def Fm.leaf : Fm → Prop
  | .bi _ _ _ => False
  | _ => True
def spLeaf : Sp := fun vs H Q _ => ∃ (Mu : Mut1) (v : V) (f : Fm), vs = [v, .str ""] ∧ Dat Mu H v f.d ∧ f.ok ∧ f.leaf ∧ ∀ H', Same H H' → Q (.bl true) H'
theorem sc_is_leaf : FnScope ["value", "leaf"] ["value", "leaf"] (defScope s_is_leaf) := ⟨rfl, rfl, rfl, by decide +kernel, rfl, by decide +kernel, by decide +kernel⟩
theorem ok_is_leaf (T : Txt w K mg c) : Def P w K mg base CX0 "is_leaf" ["value", "leaf"] 2 spLeaf := by
  refine T.d_is_leaf.def_ sc_is_leaf (fun vs H Q E ⟨_, _, _, e, _⟩ => by rw [e]; rfl) (fun _ _ _ _ _ _ us hl => match us, hl with | [_, _], _ => rfl) fun f cdv A outer s H vs Q E hr h => ?_
  obtain ⟨Mu, v, g, rfl, dv, ok, lf, q⟩ := h
  refine ⟨_, PSs.nox (pss_cons (ps_if (pt_cmpR op_eqC (pe_ix ix_dat (pv 0) pe_int (fun _ _ => rfl)) pe_str (nomark _)) (pss_one (ps_ret (pe_cmpR op_eqC (len1 T.n_len (pa_cons (pv 0) pa_nil)) pe_int (nomark _)))) pss_nil)
      (pss_cons (ps_if (pt_cmpR op_neC (len1 T.n_len (pa_cons (pv 0) pa_nil)) pe_int (nomark _)) (pss_one (ps_ret pe_bl)) pss_nil)
      (pss_cons (ps_if (pt_cmpR op_eqC (pe_ix ix_dat (pv 0) pe_int (fun _ _ => rfl)) pe_str (nomark _)) (pss_one (ps_ret (dcall (ok_is_name T) hr (by decide) pass0 (pa_cons (pe_ix ix_dat (pv 0) pe_int (fun _ _ => rfl)) pa_nil)))) pss_nil)
      (pss_cons ps_never (pss_cons ps_never (pss_one ps_never)))))), ?_⟩
  cases g with
  | bi o a b => exact lf.elim
  | no =>
    refine ⟨_, rfl, Mu, _, _, 0, dv, rfl, rfl, fun z dz => ?_⟩
    obtain rfl := dz.asStr
    refine ⟨rfl, fun _ => ⟨_, rfl, ?_⟩, fun z => absurd rfl z⟩
    exact iteT ⟨_, rfl, _, dv.lenT, rfl, fun _ => q H (Same.refl H), fun z => absurd rfl z⟩
  | «at» x =>
    refine ⟨_, rfl, Mu, _, _, 0, dv, rfl, rfl, fun z dz => ?_⟩
    obtain rfl := dz.asStr
    refine ⟨rfl, fun z => absurd z (by decide +kernel), fun _ => ⟨_, rfl, iteF ?_⟩⟩
    refine ⟨_, rfl, _, dv.lenT, rfl, fun _ => ⟨_, rfl, iteF ?_⟩, fun z => absurd rfl z⟩
    refine ⟨_, rfl, Mu, _, _, 0, dv, rfl, rfl, fun z dz => ?_⟩
    obtain rfl := dz.asStr
    refine ⟨rfl, fun _ => ⟨_, rfl, iteT ?_⟩, fun z => absurd rfl z⟩
    refine ⟨_, rfl, Mu, _, _, 1, dv, rfl, rfl, fun z dz => ?_⟩
    obtain rfl := dz.asStr
    exact ⟨x, rfl, ok, q⟩
def spForm (n : Nat) : Sp := fun vs H Q _ => ∃ (Mu : Mut1) (v : V) (f : Fm) (k : Int), vs = [v, .int k, .str ""] ∧ Wl Mu H ∧ Dat Mu H v f.d ∧ f.ok ∧ f.deep ≤ n ∧ (f.deep : Int) ≤ k ∧ ∀ H', Same H H' → Q (.bl true) H'
theorem sc_is_form : FnScope ["value", "deep", "leaf", "part"] ["value", "deep", "leaf"] (defScope s_is_form) := ⟨rfl, rfl, rfl, by decide +kernel, rfl, by decide +kernel, by decide +kernel⟩
theorem Fm.deep_pos (f : Fm) : 1 ≤ f.deep := by
  cases f <;> simp [Fm.deep]
theorem ok_is_form (T : Txt w K mg c) (n : Nat) : Def P w K mg base CX0 "is_form" ["value", "deep", "leaf"] (n + 3) (spForm n) := by
  induction n with
  | zero =>
    refine T.d_is_form.def_ sc_is_form (fun vs H Q E ⟨_, _, _, _, e, _⟩ => by rw [e]; rfl) (fun _ _ _ _ _ _ us hl => match us, hl with | [_, _, _], _ => rfl) fun f cdv A outer s H vs Q E hr h => ?_
    obtain ⟨Mu, v, g, k, rfl, wl, dv, ok, hn, hk, q⟩ := h
    have hp := g.deep_pos
    omega
  | succ n ih =>
    obtain ⟨aP, cP, hP⟩ := T.k_PAIRS
    refine T.d_is_form.def_ sc_is_form (fun vs H Q E ⟨_, _, _, _, e, _⟩ => by rw [e]; rfl) (fun _ _ _ _ _ _ us hl => match us, hl with | [_, _, _], _ => rfl) fun f cdv A outer s H vs Q E hr h => ?_
    obtain ⟨Mu, v, g, k, rfl, wl, dv, ok, hn, hk, q⟩ := h
    refine ⟨_, PSs.nox (pss_cons (ps_if (PW.pt (pw_or (pt_cmpR op_eqC (pv 1) pe_int (nomark _)) (pw_or (pt_not (pt_val (isi .tuple T.n_isinstance (pa_cons (pv 0) (pa_cons (gty .tuple T.n_tuple bb_tuple) pa_nil))))) (pw_or (pt_cmpR op_eqC (len1 T.n_len (pa_cons (pv 0) pa_nil)) pe_int (nomark _)) (pw_or1 (pt_not (pt_val (isi .str T.n_isinstance (pa_cons (pe_ix ix_dat (pv 0) pe_int (fun _ _ => rfl)) (pa_cons (gty .str T.n_str bb_str) pa_nil)))))))))) (pss_one (ps_ret pe_bl)) pss_nil)
      (pss_cons (ps_if (pt_cmpR op_notInC (pe_ix ix_dat (pv 0) pe_int (fun _ _ => rfl)) (gcst cP) rfl) (pss_one (ps_ret (dcall (ok_is_leaf T) hr (by omega) pass0 (pa_cons (pv 0) (pa_cons (pv 2) pa_nil))))) pss_nil)
      (pss_one (ps_ret (pe_and (pe_cmpR op_eqC (len1 T.n_len (pa_cons (pv 0) pa_nil)) pe_int (nomark _)) (pe_one (all1 rfl T.n_all (pa_cons (pe_lc (own := [("part", 3)]) rfl sc_is_form.nd (pi_tup (pe_slice sl_tupD (pv 0) (po_some pe_int) po_none)) (blkOk_by (N := ["value", "deep", "leaf", "part"]) (sc := (defScope s_is_form)) (by decide +kernel)) (fun _ _ _ _ _ => (pg_name (i := 3) sc_is_form.nd rfl (Or.inl rfl))) (fun _ _ _ _ _ => pts_nil) (fun _ _ _ _ _ => (dcall ih hr (by omega) pass0 (pa_cons (pv 3) (pa_cons (pe_op op_sub (pv 1) pe_int) (pa_cons (pv 2) pa_nil)))))) pa_nil)))))))), ?_⟩
    have hp := g.deep_pos
    have hw : ∃ r x, g.d = .tuple (.str x :: r) := by
      cases g <;> exact ⟨_, _, rfl⟩
    obtain ⟨r, x, eg⟩ := hw
    have dv1 := dv
    rw [eg] at dv1
    -- the guards
    refine ⟨_, rfl, rfl, fun z => absurd z (fun z => ?_), fun _ => ⟨_, rfl, iteF ?_⟩⟩
    · have z := V.int.inj z
      omega
    refine ⟨_, rfl, rfl, .tuple, dv1.kd, _, rfl, iteF ?_⟩
    refine ⟨_, rfl, _, dv1.lenT, rfl, fun z => absurd z (fun z => ?_), fun _ => ⟨_, rfl, iteF ?_⟩⟩
    · have z := V.int.inj z
      simp at z
      omega
    refine ⟨_, rfl, Mu, _, _, 0, dv1, rfl, rfl, fun z dz => ?_⟩
    obtain rfl := dz.asStr
    refine ⟨rfl, .str, .base (.str x), _, rfl, iteF ?_⟩
    -- a leaf, or not
    refine ⟨_, rfl, Mu, _, _, 0, dv1, rfl, rfl, fun z dz => ?_⟩
    obtain rfl := dz.asStr
    refine ⟨aP, _, rfl, .inr (hP _), rfl, rfl, fun z => ⟨_, rfl, iteF ?_⟩, fun z => ⟨_, rfl, iteT ?_⟩⟩
    · cases g with
      | no =>
        cases eg
        exact absurd z (by decide +kernel)
      | «at» y =>
        cases eg
        exact absurd z (by decide +kernel)
      | bi o a b =>
        have h3 := dv.lenT (K := K)
        have ha : a.deep ≤ n ∧ (a.deep : Int) ≤ k - 1 := by
          simp only [Fm.deep] at hn hk
          omega
        have hb : b.deep ≤ n ∧ (b.deep : Int) ≤ k - 1 := by
          simp only [Fm.deep] at hn hk
          omega
        refine ⟨_, rfl, _, h3, rfl, fun _ => ⟨_, rfl, iteT ?_⟩, fun z => absurd rfl z⟩
        refine ⟨_, rfl, _, rfl, Mu, _, wl, dv, fun p H1 s1 d1 => ?_⟩
        obtain ⟨p1, xs, e1, m1, h1, r1⟩ := d1.asTup
        cases e1
        refine ⟨p, rfl, ⟨_, SqT.of h1⟩, fun D hD => ?_⟩
        have el : xs.length = 2 := r1.length
        refine lc_dat walk_tup (Mc := fun _ => False) (Mu := Mu) (fun _ z => z.elim) (wl.same s1) hD (by rw [el]; decide) (fun i => List.replicate i (.bool true)) rfl (fun _ _ => True) trivial (fun _ _ _ _ => trivial) (fun i H0 k0 _ => SqT.of (k0.at_ _ _ ?_ h1)) ?_ ?_
        · exact fun z => z.elim (fun z => z) (ne_of_none h1 hD)
        · rintro i v0 H0 H0' add skip hi k0 wl0 hD0 - ⟨rfl, hv⟩ ha' -
          refine ⟨rfl, ?_⟩
          obtain ⟨d0, hd0, dd0⟩ := r1.get hv
          have dk := (dd0.grow (Mv := wi Mu D) (fun b m => m.imp id (fun m => by rw [m]; exact hD))).keep (k0.wide fun b m => .inr (m.elim (fun z => z.elim) id))
          have fin : ∀ H2, Same H0' H2 → add (.bl true) H2 := fun H2 s2 => ha' _ _ _ (.of s2) (same_at s2 hD0) (.bl true) List.replicate_succ' trivial
          match i, hi, hd0 with
          | 0, _, hd0 =>
            cases hd0
            exact ⟨_, rfl, _, rfl, _, _, rfl, rfl, _, rfl, _, _, a, _, rfl, wl0, dk, ok.1, ha.1, ha.2, fin⟩
          | 1, _, hd0 =>
            cases hd0
            exact ⟨_, rfl, _, rfl, _, _, rfl, rfl, _, rfl, _, _, b, _, rfl, wl0, dk, ok.2, hb.1, hb.2, fin⟩
          | i + 2, hi, _ =>
            rw [el] at hi
            omega
        · intro H0 xs0 k0 hx r _ _
          have e := dats_trues r
          refine ⟨D, _, rfl, by rw [← e]; exact SqL.of hx, ?_⟩
          rw [all_trues]
          exact q _ (s1.trans (k0.same fun _ z => z))
    · cases g with
      | no => exact ⟨_, rfl, _, rfl, Mu, v, .no, rfl, dv, ok, trivial, q⟩
      | «at» y => exact ⟨_, rfl, _, rfl, Mu, v, .at y, rfl, dv, ok, trivial, q⟩
      | bi o a b =>
        cases eg
        cases o <;> exact absurd z (by decide +kernel)
end
end AG
namespace AG
open PySem PySem.Spec PyProof.Rows L2
theorem KTb.get {w : World} {K : PySem.W.Frag} {mg : Str → Option Value} {x : Str} {tab : List (Str × V)} (T : KTb w K mg x tab) : ∃ (a : Addr) (es : Array DictEntry) (n : Nat), Cst mg x (.ref a) ∧ KDict K w a es n ∧ ∀ p ∈ tab, ∃ r, PySem.W.nsIn K a p.1 = some r ∧ RelO (some p.2) r := by
  obtain ⟨a, es, n, h, D, t⟩ := T.ex
  exact ⟨a, es, n, ⟨_, h, rfl⟩, D, fun p hp => let ⟨u, e, r⟩ := t p hp; ⟨_, e, r⟩⟩
section
variable {P : Program} {w : World} {K : PySem.W.Frag} {mg : Str → Option Value} {base : Heap} {c : Cs}
/-! ### is_listed -/
def spListed : Sp := fun vs H Q _ => ∃ (Mu : Mut1) (v : V) (d : PyData), vs = [v] ∧ Dat Mu H v d ∧ (kdOf d = .list ∨ kdOf d = .tuple) ∧ ∀ H', Same H H' → Q (.bl true) H'
theorem sc_is_listed : FnScope ["value"] ["value"] (defScope s_is_listed) := ⟨rfl, rfl, rfl, by decide +kernel, rfl, by decide +kernel, by decide +kernel⟩
theorem ok_is_listed (T : Txt w K mg c) : Def P w K mg base CX0 "is_listed" ["value"] 1 spListed := by
  refine T.d_is_listed.def_ sc_is_listed (fun vs H Q E ⟨_, _, _, e, _⟩ => by rw [e]; rfl) (fun _ _ _ _ _ _ us hl => match us, hl with | [_], _ => rfl) fun f cdv A outer s H vs Q E hr h => ?_
  obtain ⟨Mu, v, d, rfl, dv, kd, q⟩ := h
  refine ⟨_, PSs.nox (pss_one (ps_ret (isi2 .list .tuple T.n_isinstance (pa_cons (pv 0) (pa_cons (pe_tup (pa_cons (gty .list T.n_list bb_list) (pa_cons (gty .tuple T.n_tuple bb_tuple) pa_nil))) pa_nil))))), ?_⟩
  refine ⟨_, rfl, (by show 2 ≤ sizeLine; decide), fun p np => ⟨p, _, rfl, upd_same, (dv.same (same_new np)).kd, ?_⟩⟩
  have e : (isK .list (kdOf d) || isK .tuple (kdOf d)) = true := by
    rcases kd with e | e <;> rw [e] <;> rfl
  rw [e]
  exact q _ (same_new np)
/-! ### is_formula -/
def spFormula : Sp := fun vs H Q _ => ∃ (Mu : Mut1) (v : V) (f : Fm), vs = [v] ∧ Wl Mu H ∧ Dat Mu H v f.d ∧ f.ok ∧ f.deep ≤ 3 ∧ ∀ H', Same H H' → Q (.bl true) H'
theorem sc_is_formula : FnScope ["value"] ["value"] (defScope s_is_formula) := ⟨rfl, rfl, rfl, by decide +kernel, rfl, by decide +kernel, by decide +kernel⟩
theorem ok_is_formula (T : Txt w K mg c) : Def P w K mg base CX0 "is_formula" ["value"] 7 spFormula := by
  refine T.d_is_formula.def_ sc_is_formula (fun vs H Q E ⟨_, _, _, e, _⟩ => by rw [e]; rfl) (fun _ _ _ _ _ _ us hl => match us, hl with | [_], _ => rfl) fun f cdv A outer s H vs Q E hr h => ?_
  obtain ⟨Mu, v, g, rfl, wl, dv, ok, hd, q⟩ := h
  refine ⟨_, PSs.nox (pss_one (ps_ret (dcall (ok_is_form T 3) hr (by decide) pass0 (pa_cons (pv 0) (pa_cons (gcst T.k_MOST_DEEP) (pa_cons pe_str pa_nil)))))), ?_⟩
  exact ⟨_, rfl, Mu, v, g, 10, rfl, wl, dv, ok, hd, by omega, q⟩
/-! ### has_word -/
def spWord : Sp := fun vs H Q _ => ∃ (Mu : Mut1) (v : V) (x : Str) (r : List PyData), vs = [v] ∧ Dat Mu H v (.tuple (.str x :: r)) ∧ Q (.bl true) H
theorem sc_has_word : FnScope ["value"] ["value"] (defScope s_has_word) := ⟨rfl, rfl, rfl, by decide +kernel, rfl, by decide +kernel, by decide +kernel⟩
theorem ok_has_word (T : Txt w K mg c) : Def P w K mg base CX0 "has_word" ["value"] 1 spWord := by
  refine T.d_has_word.def_ sc_has_word (fun vs H Q E ⟨_, _, _, _, e, _⟩ => by rw [e]; rfl) (fun _ _ _ _ _ _ us hl => match us, hl with | [_], _ => rfl) fun f cdv A outer s H vs Q E hr h => ?_
  obtain ⟨Mu, v, x, r, rfl, dv, q⟩ := h
  refine ⟨_, PSs.nox (pss_one (ps_ret (pe_and (isi .tuple T.n_isinstance (pa_cons (pv 0) (pa_cons (gty .tuple T.n_tuple bb_tuple) pa_nil))) (pe_and (pe_cmpR op_gt (len1 T.n_len (pa_cons (pv 0) pa_nil)) pe_int (nomark _)) (pe_one (isi .str T.n_isinstance (pa_cons (pe_ix ix_dat (pv 0) pe_int (fun _ _ => rfl)) (pa_cons (gty .str T.n_str bb_str) pa_nil)))))))), ?_⟩
  refine ⟨_, rfl, rfl, .tuple, dv.kd, _, rfl, iteT ⟨_, rfl, _, dv.lenT, _, _, rfl, rfl, _, rfl, ?_⟩⟩
  rw [decide_eq_true (by simp)]
  refine iteT ⟨_, rfl, Mu, _, _, 0, dv, rfl, rfl, fun z dz => ?_⟩
  obtain rfl := dz.asStr
  exact ⟨rfl, .str, .base (.str x), q⟩
/-! ### is_like_reference -/
def spLike : Sp := fun vs H Q _ => ∃ (Mu : Mut1) (v : V) (s : Sc), vs = [v] ∧ (s = .exg ∨ s = .exn) ∧ Dat Mu H v s.a ∧ Q (.bl true) H
theorem sc_is_like_reference : FnScope ["value"] ["value"] (defScope s_is_like_reference) := ⟨rfl, rfl, rfl, by decide +kernel, rfl, by decide +kernel, by decide +kernel⟩
theorem ok_is_like_reference (T : Txt w K mg c) : Def P w K mg base CX0 "is_like_reference" ["value"] 2 spLike := by
  obtain ⟨aR, eR, nR, cR, DR, tR⟩ := T.t_REFERENCES.get
  refine T.d_is_like_reference.def_ sc_is_like_reference (fun vs H Q E ⟨_, _, _, e, _⟩ => by rw [e]; rfl) (fun _ _ _ _ _ _ us hl => match us, hl with | [_], _ => rfl) fun f cdv A outer s H vs Q E hr h => ?_
  obtain ⟨Mu, v, g, rfl, hs, dv, q⟩ := h
  refine ⟨_, PSs.nox (pss_one (ps_ret (pe_and (dcall (ok_has_word T) hr (by decide) pass0 (pa_cons (pv 0) pa_nil)) (pe_one (pe_cmpR op_eqC (pe_kget (gcst cR) (pe_ix ix_dat (pv 0) pe_int (fun _ _ => rfl)) pe_int ⟨rfl, rfl, rfl, rfl⟩) (len1 T.n_len (pa_cons (pv 0) pa_nil)) (nomark _)))))), ?_⟩
  rcases hs with rfl | rfl
  · refine ⟨_, rfl, Mu, _, _, _, rfl, dv, _, rfl, iteT ⟨aR, eR, nR, rfl, DR, _, rfl, Mu, _, _, 0, dv, rfl, rfl, fun z dz => ?_⟩⟩
    obtain rfl := dz.asStr
    obtain ⟨r, e, ro⟩ := tR ("goal", .int 1) (by simp)
    exact ⟨"goal", r, _, rfl, e, ro, _, rfl, _, dv.lenT, rfl, fun _ => q, fun z => absurd rfl z⟩
  · refine ⟨_, rfl, Mu, _, _, _, rfl, dv, _, rfl, iteT ⟨aR, eR, nR, rfl, DR, _, rfl, Mu, _, _, 0, dv, rfl, rfl, fun z dz => ?_⟩⟩
    obtain rfl := dz.asStr
    obtain ⟨r, e, ro⟩ := tR ("newest", .int 2) (by simp)
    exact ⟨"newest", r, _, rfl, e, ro, _, rfl, _, dv.lenT, rfl, fun _ => q, fun z => absurd rfl z⟩
/-! ### is_reference -/
def spRef : Sp := fun vs H Q _ => ∃ (Mu : Mut1) (v : V) (s : Sc), vs = [v] ∧ (s = .exg ∨ s = .exn) ∧ Dat Mu H v s.a ∧ ∀ H', Same H H' → Q (.bl true) H'
theorem sc_is_reference : FnScope ["value", "word"] ["value"] (defScope s_is_reference) := ⟨rfl, rfl, rfl, by decide +kernel, rfl, by decide +kernel, by decide +kernel⟩
theorem ok_is_reference (T : Txt w K mg c) : Def P w K mg base CX0 "is_reference" ["value"] 3 spRef := by
  refine T.d_is_reference.def_ sc_is_reference (fun vs H Q E ⟨_, _, _, e, _⟩ => by rw [e]; rfl) (fun _ _ _ _ _ _ us hl => match us, hl with | [_], _ => rfl) fun f cdv A outer s H vs Q E hr h => ?_
  obtain ⟨Mu, v, g, rfl, hs, dv, q⟩ := h
  refine ⟨_, PSs.nox (pss_cons (ps_if (pt_not (pt_val (dcall (ok_is_like_reference T) hr (by decide) pass0 (pa_cons (pv 0) pa_nil)))) (pss_one (ps_ret pe_bl)) pss_nil)
      (pss_cons (ps_set (i := 1) sc_is_reference.nd rfl (Or.inl rfl) (pe_ix ix_dat (pv 0) pe_int (fun _ _ => rfl)))
      (pss_cons (ps_if (pt_cmpR op_inC (pv 1) (pe_tup (pa_cons pe_str (pa_cons pe_str pa_nil))) rfl) (pss_one (ps_ret (pe_and (dcall (ok_is_number T) hr (by decide) pass0 (pa_cons (pe_ix ix_dat (pv 0) pe_int (fun _ _ => rfl)) pa_nil)) (pe_one (pe_chain op_le op_le pe_int (pe_ix ix_dat (pv 0) pe_int (fun _ _ => rfl)) (gcst T.k_MOST_PLACE)))))) pss_nil)
      (pss_cons (ps_if (PW.pt (pw_and (pt_cmpR op_inC (pv 1) (pe_tup (pa_cons pe_str (pa_cons pe_str pa_nil))) rfl) (pw_and1 (pt_not (pt_val (dcall (ok_is_name T) hr (by decide) pass0 (pa_cons (pe_ix ix_dat (pv 0) pe_int (fun _ _ => rfl)) pa_nil))))))) (pss_one (ps_ret pe_bl)) pss_nil)
      (pss_one (ps_ret (pe_or (pe_cmpR op_notInC (pv 1) (pe_tup (pa_cons pe_str (pa_cons pe_str pa_nil))) rfl) (pe_one pe_no)))))))), ?_⟩
  rcases hs with rfl | rfl
  · refine ⟨_, rfl, Mu, _, .exg, rfl, .inl rfl, dv, _, rfl, iteF ⟨_, rfl, Mu, _, _, 0, dv, rfl, rfl, fun z dz => ?_⟩⟩
    obtain rfl := dz.asStr
    refine ⟨_, rfl, (by show 2 ≤ sizeLine; decide), fun p np => ⟨p, _, rfl, .inr (SqT.of upd_same), rfl, rfl, fun z => absurd z (by decide +kernel), fun _ => ⟨_, rfl, iteF ?_⟩⟩⟩
    refine ⟨_, rfl, (by show 2 ≤ sizeLine; decide), fun p2 np2 => ⟨p2, _, rfl, .inr (SqT.of upd_same), rfl, rfl, fun z => absurd z (by decide +kernel), fun _ => ⟨_, rfl, iteF (iteF ?_)⟩⟩⟩
    refine ⟨_, rfl, (by show 2 ≤ sizeLine; decide), fun p3 np3 => ⟨p3, _, rfl, .inr (SqT.of upd_same), rfl, rfl, fun z => absurd z (by decide +kernel), fun _ => ⟨_, rfl, iteT ?_⟩⟩⟩
    exact q _ (((same_new np).trans (same_new np2)).trans (same_new np3))
  · refine ⟨_, rfl, Mu, _, .exn, rfl, .inr rfl, dv, _, rfl, iteF ⟨_, rfl, Mu, _, _, 0, dv, rfl, rfl, fun z dz => ?_⟩⟩
    obtain rfl := dz.asStr
    refine ⟨_, rfl, (by show 2 ≤ sizeLine; decide), fun p np => ⟨p, _, rfl, .inr (SqT.of upd_same), rfl, rfl, fun _ => ⟨_, rfl, iteT ?_⟩, fun z => absurd z (by decide +kernel)⟩⟩
    have d2 := dv.same (same_new (o := .tup [V.str "newest", V.str "oldest"]) np)
    refine ⟨_, rfl, Mu, _, _, 1, d2, rfl, rfl, fun z dz => ?_⟩
    obtain rfl := dz.asInt
    refine ⟨_, rfl, _, rfl, iteT ⟨_, rfl, Mu, _, _, 1, d2, rfl, rfl, fun z dz => ?_⟩⟩
    obtain rfl := dz.asInt
    exact ⟨_, _, rfl, rfl, _, rfl, iteT ⟨_, _, rfl, rfl, q _ (same_new np)⟩⟩
end
end AG
namespace AG
open PySem PySem.Spec PyProof.Rows L2
section
variable {P : Program} {w : World} {K : PySem.W.Frag} {mg : Str → Option Value} {base : Heap} {c : Cs}
/-! ### blocks_of -/
def blk (x : Str) (a : PyData) : List PyData := if x = "try" then [a] else []
def spBlocks : Sp := fun vs H Q _ => ∃ (Mu : Mut1) (v : V) (x : Str) (a : PyData), vs = [v] ∧ Wl Mu H ∧ Dat Mu H v (.tuple [.str x, a]) ∧ (x = "exact" ∨ x = "intro" ∨ x = "recall" ∨ x = "try") ∧ ∀ p H', Same H H' → Dat Mu H' (.ref p) (.list (blk x a)) → H p = none → Q (.ref p) H'
theorem sc_blocks_of : FnScope ["command"] ["command"] (defScope s_blocks_of) := ⟨rfl, rfl, rfl, by decide +kernel, rfl, by decide +kernel, by decide +kernel⟩
theorem ok_blocks_of (T : Txt w K mg c) : Def P w K mg base CX0 "blocks_of" ["command"] 1 spBlocks := by
  refine T.d_blocks_of.def_ sc_blocks_of (fun vs H Q E ⟨_, _, _, _, e, _⟩ => by rw [e]; rfl) (fun _ _ _ _ _ _ us hl => match us, hl with | [_], _ => rfl) fun f cdv A outer s H vs Q E hr h => ?_
  obtain ⟨Mu, v, x, a, rfl, wl, dv, hx, q⟩ := h
  have hu := hu_of hr
  refine ⟨_, PSs.nox (pss_one (ps_ret (pe_callTy cListOf (by rfl) T.n_list bb_list (pa_cons (pe_slice sl_tupD (pv 0) (po_some (pe_dget2 hu (pe_disp (pps_cons pe_str pe_int (pps_cons pe_str pe_int (pps_cons pe_str pe_int (pps_cons pe_str pe_int pps_nil)))) (by rfl) (by rfl) (fun z => by cases z) (by decide)) (pe_ix ix_dat (pv 0) pe_int (fun _ _ => rfl)) (len1 T.n_len (pa_cons (pv 0) pa_nil)) ⟨rfl, rfl, rfl, rfl⟩)) po_none) pa_nil)))), ?_⟩
  refine ⟨_, rfl, fun p np => ⟨upd_same, [(.inr "first", .int 1), (.inr "try", .int 1), (.inr "repeat", .int 2), (.inr "all", .int 1)], rfl, by decide, ?_⟩⟩
  rw [upd_upd]
  have s1 : Same H (upd H p (.dK (mergeK [] [(.inr "first", .int 1), (.inr "try", .int 1), (.inr "repeat", .int 2), (.inr "all", .int 1)]))) := same_new np
  have d1 := dv.same s1
  refine ⟨p, rfl, .inl ⟨_, .inl upd_same⟩, _, rfl, Mu, _, _, 0, d1, rfl, rfl, fun z dz => ?_⟩
  obtain rfl := dz.asStr
  refine ⟨_, rfl, _, d1.lenT, _, DGet.k (k := Sum.inr x) upd_same, ?_⟩
  rcases hx with rfl | rfl | rfl | rfl
  all_goals exact ⟨_, rfl, Mu, _, wl.same s1, d1, fun p2 H2 s2 d2 => ⟨Mu, _, (wl.same s1).same s2, d2, .inr rfl, fun p3 H3 s3 d3 n3 => q p3 H3 ((s1.trans s2).trans s3) d3 (s1.free (s2.free n3))⟩⟩
/-! ### is_right -/
def spRight : Sp := fun vs H Q _ => ∃ (Mu : Mut1) (v : V) (d : Cm), vs = [v] ∧ Wl Mu H ∧ Dat Mu H v d.law ∧ d.ok ∧ ∀ H', Same H H' → Q (.bl true) H'
theorem sc_is_right : FnScope ["command", "word", "names", "name", "block"] ["command"] (defScope s_is_right) := ⟨rfl, rfl, rfl, by decide +kernel, rfl, by decide +kernel, by decide +kernel⟩
theorem Cm.law_eq (d : Cm) : ∃ a, d.law = .tuple [.str d.w, a] ∧ (d.w = "exact" ∨ d.w = "intro" ∨ d.w = "recall" ∨ d.w = "try") := by
  cases d with
  | one s => cases s <;> first | exact ⟨_, rfl, .inl rfl⟩ | exact ⟨_, rfl, .inr (.inl rfl)⟩ | exact ⟨_, rfl, .inr (.inr (.inl rfl))⟩
  | att s => exact ⟨_, rfl, .inr (.inr (.inr rfl))⟩
theorem ok_is_right (T : Txt w K mg c) : Def P w K mg base CX0 "is_right" ["command"] 4 spRight := by
  obtain ⟨aR, eR, nR, cR, DR, tR⟩ := T.t_SIZES_scripts.get
  refine T.d_is_right.def_ sc_is_right (fun vs H Q E ⟨_, _, _, e, _⟩ => by rw [e]; rfl) (fun _ _ _ _ _ _ us hl => match us, hl with | [_], _ => rfl) fun f cdv A outer s H vs Q E hr h => ?_
  obtain ⟨Mu, v, d, rfl, wl, dv, ok, q⟩ := h
  have hu := hu_of hr
  refine ⟨_, PSs.nox (pss_cons (ps_if (PW.pt (pw_or (pt_not (pt_val (dcall (ok_has_word T) hr (by decide) pass0 (pa_cons (pv 0) pa_nil)))) (pw_or1 (pt_cmpR op_neC (pe_kget (gcst cR) (pe_ix ix_dat (pv 0) pe_int (fun _ _ => rfl)) pe_int ⟨rfl, rfl, rfl, rfl⟩) (len1 T.n_len (pa_cons (pv 0) pa_nil)) (nomark _))))) (pss_one (ps_ret pe_bl)) pss_nil)
      (pss_cons (ps_set (i := 1) sc_is_right.nd rfl (Or.inl rfl) (pe_ix ix_dat (pv 0) pe_int (fun _ _ => rfl)))
      (pss_cons (ps_if (PW.pt (pw_and (pt_cmpR op_inC (pv 1) (pe_tup (pa_cons pe_str (pa_cons pe_str (pa_cons pe_str (pa_cons pe_str (pa_cons pe_str (pa_cons pe_str pa_nil))))))) rfl) (pw_and1 (pt_not (pt_val (dcall (ok_is_reference T) hr (by decide) pass0 (pa_cons (pe_ix ix_dat (pv 0) pe_int (fun _ _ => rfl)) pa_nil))))))) (pss_one (ps_ret pe_bl)) pss_nil)
      (pss_cons (ps_if (PW.pt (pw_or (PW.pt (pw_and (pt_cmpR op_eqC (pv 1) pe_str (nomark _)) (pw_and1 pt_no))) (pw_or1 (PW.pt (pw_and (pt_cmpR op_eqC (pv 1) pe_str (nomark _)) (pw_and1 pt_no)))))) (pss_one (ps_ret pe_bl)) pss_nil)
      (pss_cons (ps_if (PW.pt (pw_and (pt_cmpR op_eqC (pv 1) pe_str (nomark _)) (pw_and1 pt_no))) (pss_one (ps_ret pe_bl)) pss_nil)
      (pss_cons (ps_set (i := 2) sc_is_right.nd rfl (Or.inl rfl) (pe_disp (pps_cons pe_str pe_int (pps_cons pe_str pe_int (pps_cons pe_str pe_int (pps_cons pe_str pe_int (pps_cons pe_str pe_int pps_nil))))) (by rfl) (by rfl) (fun z => by cases z) (by decide)))
      (pss_cons (ps_if (pt_cmp (pc_din hu (pv 1) (pv 2))) (pss_one (ps_ret (all1 rfl T.n_all (pa_cons (pe_lc (own := [("name", 3)]) rfl sc_is_right.nd (pi_tup (pe_ifExp (pt_cmpR op_neC (pv 1) pe_str (nomark _)) (pe_slice sl_tupD (pv 0) (po_some (pe_dget hu (pv 2) (pv 1) (fun _ _ => rfl))) po_none) pe_no)) (blkOk_by (N := ["command", "word", "names", "name", "block"]) (sc := (defScope s_is_right)) (by decide +kernel)) (fun _ _ _ _ _ => (pg_name (i := 3) sc_is_right.nd rfl (Or.inl rfl))) (fun _ _ _ _ _ => pts_nil) (fun _ _ _ _ _ => (dcall (ok_is_name T) hr (by decide) pass0 (pa_cons (pv 3) pa_nil)))) pa_nil)))) pss_nil)
      (pss_one (ps_ret (all1 rfl T.n_all (pa_cons (pe_lc (own := [("block", 4)]) rfl sc_is_right.nd (pi_list (dcall (ok_blocks_of T) hr (by decide) pass0 (pa_cons (pv 0) pa_nil))) (blkOk_by (N := ["command", "word", "names", "name", "block"]) (sc := (defScope s_is_right)) (by decide +kernel)) (fun _ _ _ _ _ => (pg_name (i := 4) sc_is_right.nd rfl (Or.inl rfl))) (fun _ _ _ _ _ => pts_nil) (fun _ _ _ _ _ => (dcall (ok_is_listed T) hr (by decide) pass0 (pa_cons (pv 4) pa_nil)))) pa_nil))))))))))), ?_⟩
  obtain ⟨a, el, hw⟩ := d.law_eq
  have d0 := dv
  rw [el] at d0
  have tab : ∃ r, PySem.W.nsIn K aR d.w = some r ∧ RelO (some (.int 2)) r := by
    rcases hw with e | e | e | e <;> rw [e]
    · exact tR ("exact", .int 2) (by simp)
    · exact tR ("intro", .int 2) (by simp)
    · exact tR ("recall", .int 2) (by simp)
    · exact tR ("try", .int 2) (by simp)
  obtain ⟨r, er, ro⟩ := tab
  refine ⟨_, rfl, Mu, _, _, _, rfl, d0, _, rfl, iteF ⟨aR, eR, nR, rfl, DR, _, rfl, Mu, _, _, 0, d0, rfl, rfl, fun z dz => ?_⟩⟩
  obtain rfl := dz.asStr
  refine ⟨d.w, r, _, rfl, er, ro, _, rfl, _, d0.lenT, rfl, fun _ => ⟨_, rfl, iteF ?_⟩, fun z => absurd rfl z⟩
  refine ⟨_, rfl, Mu, _, _, 0, d0, rfl, rfl, fun z dz => ?_⟩
  obtain rfl := dz.asStr
  cases d with
  | one g =>
    have ex : (g = .exg ∨ g = .exn) ∨ ∃ x, NameOk x ∧ g.a = .str x ∧ (g.w = "intro" ∨ g.w = "recall") := by
      cases g with
      | exg => exact .inl (.inl rfl)
      | exn => exact .inl (.inr rfl)
      | intro x => exact .inr ⟨x, ok, rfl, .inl rfl⟩
      | recall x => exact .inr ⟨x, ok, rfl, .inr rfl⟩
    have ea : a = g.a := by
      cases el
      rfl
    subst ea
    have d0 : Dat Mu H v (.tuple [.str g.w, g.a]) := d0
    show _
    rcases ex with hs | ⟨x, okx, hx, hw2⟩
    · have ew : (Cm.one g).w = "exact" := by
        rcases hs with e | e <;> rw [e] <;> rfl
      rw [ew]
      refine ⟨_, rfl, (by show 6 ≤ sizeLine; decide), fun p np => ⟨p, _, rfl, .inr (SqT.of upd_same), rfl, rfl, fun _ => ⟨_, rfl, iteT ?_⟩, fun z => absurd z (by decide +kernel)⟩⟩
      refine ⟨_, rfl, Mu, _, _, 1, d0.same (same_new np), rfl, rfl, fun z dz => ⟨Mu, z, g, rfl, hs, dz, fun H2 s2 => ⟨_, rfl, iteF ?_⟩⟩⟩
      refine ⟨_, rfl, rfl, fun z => absurd z (by decide +kernel), fun _ => ⟨_, rfl, iteF (iteF ?_)⟩⟩
      refine ⟨_, rfl, rfl, fun z => absurd z (by decide +kernel), fun _ => ⟨_, rfl, iteF (iteF ?_)⟩⟩
      refine ⟨_, rfl, rfl, fun z => absurd z (by decide +kernel), fun _ => ⟨_, rfl, iteF (iteF ?_)⟩⟩
      refine fun p2 np2 => ⟨upd_same, [(.inr "intro", .int 1), (.inr "have", .int 1), (.inr "recall", .int 1), (.inr "open", .int 2), (.inr "use", .int 3)], rfl, by decide, ?_⟩
      rw [upd_upd]
      have s3 := ((same_new (o := .tup [V.str "exact", V.str "apply", V.str "drop", V.str "move", V.str "open", V.str "use"]) np).trans s2).trans (same_new (o := .dK (mergeK [] [(.inr "intro", .int 1), (.inr "have", .int 1), (.inr "recall", .int 1), (.inr "open", .int 2), (.inr "use", .int 3)])) np2)
      refine ⟨_, rfl, _, rfl, p2, _, rfl, DGet.k (k := Sum.inr "exact") upd_same, _, rfl, iteF ?_⟩
      refine ⟨_, rfl, Mu, _, "exact", g.a, rfl, wl.same s3, ?_, .inl rfl, fun p4 H4 s4 d4 n4 => ?_⟩
      · have := d0.same s3
        rw [show g.w = "exact" from ew] at this
        exact this
      · obtain ⟨_, xs, e4, _, h4, r4⟩ := d4.asLst
        cases e4
        cases r4
        refine ⟨_, rfl, ⟨_, SqL.of h4⟩, fun D hD => ?_⟩
        refine lc_dat walk_list (Mc := fun _ => False) (Mu := Mu) (fun _ z => z.elim) ((wl.same s3).same s4) hD (Nat.zero_le _) (fun i => List.replicate i (.bool true)) rfl (fun _ _ => True) trivial (fun _ _ _ _ => trivial) (fun i H0 k0 _ => SqL.of (k0.at_ _ _ ?_ h4)) ?_ ?_
        · exact fun z => z.elim (fun z => z) (ne_of_none h4 hD)
        · intro i _ _ _ _ _ hi
          exact absurd hi (Nat.not_lt_zero _)
        · intro H0 xs k0 hx r _ _
          have e := dats_trues r
          refine ⟨D, _, rfl, by rw [← e]; exact SqL.of hx, ?_⟩
          rw [all_trues]
          exact q _ ((s3.trans s4).trans (k0.same fun _ z => z))
    · have ew : (Cm.one g).w = g.w := rfl
      rw [ew]
      have ni : inV (.str g.w) [V.str "exact", V.str "apply", V.str "drop", V.str "move", V.str "open", V.str "use"] = false := by
        rcases hw2 with e | e <;> rw [e] <;> decide +kernel
      have n1 : V.str g.w ≠ V.str "use" := by
        rcases hw2 with e | e <;> rw [e] <;> decide +kernel
      have n2 : V.str g.w ≠ V.str "have" := by
        rcases hw2 with e | e <;> rw [e] <;> decide +kernel
      have n3 : V.str g.w ≠ V.str "repeat" := by
        rcases hw2 with e | e <;> rw [e] <;> decide +kernel
      have kv : valV (mergeK [] [(.inr "intro", .int 1), (.inr "have", .int 1), (.inr "recall", .int 1), (.inr "open", .int 2), (.inr "use", .int 3)]) (Sum.inr g.w) = some (V.int 1) := by
        rcases hw2 with e | e <;> rw [e] <;> decide +kernel
      refine ⟨_, rfl, (by show 6 ≤ sizeLine; decide), fun p np => ⟨p, _, rfl, .inr (SqT.of upd_same), rfl, rfl, fun z => absurd z (by rw [ni]; decide), fun _ => ⟨_, rfl, iteF (iteF ?_)⟩⟩⟩
      refine ⟨_, rfl, rfl, fun z => absurd z n1, fun _ => ⟨_, rfl, iteF (iteF ?_)⟩⟩
      refine ⟨_, rfl, rfl, fun z => absurd z n2, fun _ => ⟨_, rfl, iteF (iteF ?_)⟩⟩
      refine ⟨_, rfl, rfl, fun z => absurd z n3, fun _ => ⟨_, rfl, iteF (iteF ?_)⟩⟩
      refine fun p2 np2 => ⟨upd_same, [(.inr "intro", .int 1), (.inr "have", .int 1), (.inr "recall", .int 1), (.inr "open", .int 2), (.inr "use", .int 3)], rfl, by decide, ?_⟩
      rw [upd_upd]
      have s3 := (same_new (o := .tup [V.str "exact", V.str "apply", V.str "drop", V.str "move", V.str "open", V.str "use"]) np).trans (same_new (o := .dK (mergeK [] [(.inr "intro", .int 1), (.inr "have", .int 1), (.inr "recall", .int 1), (.inr "open", .int 2), (.inr "use", .int 3)])) np2)
      have dg : ∀ H5 : Hp, H5 p2 = some (.dK (mergeK [] [(.inr "intro", .int 1), (.inr "have", .int 1), (.inr "recall", .int 1), (.inr "open", .int 2), (.inr "use", .int 3)])) → DGet H5 p2 (.str g.w) (some (.int 1)) := fun H5 h5 => by
        have := DGet.k (k := Sum.inr g.w) h5
        rw [kv] at this
        exact this
      refine ⟨_, rfl, _, rfl, p2, _, rfl, dg _ upd_same, _, rfl, iteT ?_⟩
      refine ⟨_, rfl, rfl, fun z => absurd z n2, fun _ => ⟨_, rfl, iteT ?_⟩⟩
      refine ⟨_, rfl, _, rfl, _, rfl, p2, _, rfl, dg _ upd_same, _, rfl, Mu, _, wl.same s3, d0.same s3, fun p4 H4 s4 d4 => ?_⟩
      obtain ⟨_, xs, e4, _, h4, r4⟩ := d4.asTup
      cases e4
      have r4 : Dats Mu H4 xs [.str x] := by
        rw [← hx]
        exact r4
      have el : xs = [V.str x] := dats_strs_eq (xs := [x]) r4
      subst el
      refine ⟨_, rfl, ⟨_, SqT.of h4⟩, fun D hD => ?_⟩
      refine lc_dat walk_tup (Mc := fun _ => False) (Mu := Mu) (fun _ z => z.elim) ((wl.same s3).same s4) hD (by show 1 ≤ 100000; decide) (fun i => List.replicate i (.bool true)) rfl (fun _ _ => True) trivial (fun _ _ _ _ => trivial) (fun i H0 k0 _ => SqT.of (k0.at_ _ _ ?_ h4)) ?_ ?_
      · exact fun z => z.elim (fun z => z) (ne_of_none h4 hD)
      · rintro i v0 H0 H0' add skip hi k0 wl0 hD0 - ⟨rfl, hv⟩ ha'
        refine fun _ => ⟨rfl, ?_⟩
        match i, hi, hv with
        | 0, _, hv =>
          cases hv
          exact ⟨_, rfl, x, rfl, okx, fun H5 s5 => ha' _ _ _ (.of s5) (same_at s5 hD0) (.bl true) List.replicate_succ' trivial⟩
      · intro H0 xs k0 hx r _ _
        have e := dats_trues r
        refine ⟨D, _, rfl, by rw [← e]; exact SqL.of hx, ?_⟩
        rw [all_trues]
        exact q _ ((s3.trans s4).trans (k0.same fun _ z => z))
  | att g =>
    have ea : a = .list [g.d] := by
      cases el
      rfl
    subst ea
    have d0 : Dat Mu H v (.tuple [.str "try", .list [g.d]]) := d0
    have ew : (Cm.att g).w = "try" := rfl
    rw [ew]
    refine ⟨_, rfl, (by show 6 ≤ sizeLine; decide), fun p np => ⟨p, _, rfl, .inr (SqT.of upd_same), rfl, rfl, fun z => absurd z (by decide +kernel), fun _ => ⟨_, rfl, iteF (iteF ?_)⟩⟩⟩
    refine ⟨_, rfl, rfl, fun z => absurd z (by decide +kernel), fun _ => ⟨_, rfl, iteF (iteF ?_)⟩⟩
    refine ⟨_, rfl, rfl, fun z => absurd z (by decide +kernel), fun _ => ⟨_, rfl, iteF (iteF ?_)⟩⟩
    refine ⟨_, rfl, rfl, fun z => absurd z (by decide +kernel), fun _ => ⟨_, rfl, iteF (iteF ?_)⟩⟩
    refine fun p2 np2 => ⟨upd_same, [(.inr "intro", .int 1), (.inr "have", .int 1), (.inr "recall", .int 1), (.inr "open", .int 2), (.inr "use", .int 3)], rfl, by decide, ?_⟩
    rw [upd_upd]
    have s3 := (same_new (o := .tup [V.str "exact", V.str "apply", V.str "drop", V.str "move", V.str "open", V.str "use"]) np).trans (same_new (o := .dK (mergeK [] [(.inr "intro", .int 1), (.inr "have", .int 1), (.inr "recall", .int 1), (.inr "open", .int 2), (.inr "use", .int 3)])) np2)
    refine ⟨_, rfl, _, rfl, p2, _, rfl, DGet.k (k := Sum.inr "try") upd_same, _, rfl, iteF ?_⟩
    refine ⟨_, rfl, Mu, _, "try", .list [g.d], rfl, wl.same s3, d0.same s3, .inr (.inr (.inr rfl)), fun p4 H4 s4 d4 n4 => ?_⟩
    obtain ⟨_, xs, e4, _, h4, r4⟩ := d4.asLst
    cases e4
    have r4 : Dats Mu H4 xs [.list [g.d]] := r4
    have el : xs.length = 1 := r4.length
    refine ⟨_, rfl, ⟨_, SqL.of h4⟩, fun D hD => ?_⟩
    refine lc_dat walk_list (Mc := fun _ => False) (Mu := Mu) (fun _ z => z.elim) ((wl.same s3).same s4) hD (by rw [el]; decide) (fun i => List.replicate i (.bool true)) rfl (fun _ _ => True) trivial (fun _ _ _ _ => trivial) (fun i H0 k0 _ => SqL.of (k0.at_ _ _ ?_ h4)) ?_ ?_
    · exact fun z => z.elim (fun z => z) (ne_of_none h4 hD)
    · rintro i v0 H0 H0' add skip hi k0 wl0 hD0 - ⟨rfl, hv⟩ ha'
      refine fun _ => ⟨rfl, ?_⟩
      obtain ⟨d1, hd1, dd1⟩ := r4.get hv
      have dk := (dd1.grow (Mv := wi Mu D) (fun b m => m.imp id (fun m => by rw [m]; exact hD))).keep (k0.wide fun b m => .inr (m.elim (fun z => z.elim) id))
      match i, hi, hd1 with
      | 0, _, hd1 =>
        cases hd1
        exact ⟨_, rfl, _, _, _, rfl, dk, .inl rfl, fun H5 s5 => ha' _ _ _ (.of s5) (same_at s5 hD0) (.bl true) List.replicate_succ' trivial⟩
      | i + 1, hi, _ =>
        rw [el] at hi
        omega
    · intro H0 xs k0 hx r _ _
      have e := dats_trues r
      refine ⟨D, _, rfl, by rw [← e]; exact SqL.of hx, ?_⟩
      rw [all_trues]
      exact q _ ((s3.trans s4).trans (k0.same fun _ z => z))
end
end AG
namespace AG
open PySem PySem.Spec PyProof.Rows L2
section
variable {P : Program} {w : World} {K : PySem.W.Frag} {mg : Str → Option Value} {base : Heap} {c : Cs}
/-! ### checked -/
def spChecked (n : Nat) : Sp := fun vs H Q _ => ∃ (Mu : Mut1) (v u : V) (cs : List Cm) (p : List Int), vs = [v, u] ∧ 0 < n ∧ Wl Mu H ∧ Dat Mu H v (.list (cs.map Cm.law)) ∧ Dat Mu H u (pathD p) ∧ (∀ d ∈ cs, d.ok ∧ d.lv ≤ n) ∧ p.length + 2 * n ≤ 5 ∧ cs.length ≤ 10 ∧
  ∀ q H', Same H H' → Dat Mu H' q (.tuple (cs.map Cm.chk)) → Q q H'
theorem sc_checked : FnScope ["commands", "path", "found", "at", "command", "here", "blocks", "spot", "block", "inner"] ["commands", "path"] (defScope s_checked) := ⟨rfl, rfl, rfl, by decide +kernel, rfl, by decide +kernel, by decide +kernel⟩
theorem Dat.wiNew {Mu : Mut1} {H : Hp} {D : Addr} (hD : H D = none) {v : V} {d : PyData} (h : Dat Mu H v d) : Dat (wi Mu D) H v d := h.grow fun b m => m.imp id fun m => by rw [m]; exact hD
theorem Dats.wiNew {Mu : Mut1} {H : Hp} {D : Addr} (hD : H D = none) {v : List V} {d : List PyData} (h : Dats Mu H v d) : Dats (wi Mu D) H v d := h.grow fun b m => m.imp id fun m => by rw [m]; exact hD
theorem path_new {Mu : Mut1} {H : Hp} (wl : Wl Mu H) {q : Addr} {xs : List V} {p : List Int} (i : Int) (r : Dats Mu H xs (p.map PyData.int)) (np : H q = none) : Dat Mu (upd H q (.tup (xs ++ [V.int i]))) (.ref q) (pathD (p ++ [i])) := by
  refine .tup (wl.new np) upd_same ?_
  rw [List.map_append]
  exact (r.same (same_new np)).app (.cons (.int i) .nil)
theorem small_len {n : Nat} (h : n ≤ 100) : n ≤ sizeLine := Nat.le_trans h (by decide)
theorem ok_checked (T : Txt w K mg c) (n : Nat) : Def P w K mg base CX0 "checked" ["commands", "path"] (n + 5) (spChecked n) := by
  induction n with
  | zero =>
    refine T.d_checked.def_ sc_checked (fun vs H Q E ⟨_, _, _, _, _, e, _⟩ => by rw [e]; rfl) (fun _ _ _ _ _ _ us hl => match us, hl with | [_, _], _ => rfl) fun f cdv A outer s H vs Q E hr h => ?_
    obtain ⟨_, _, _, _, _, _, hn, _⟩ := h
    exact absurd hn (Nat.lt_irrefl 0)
  | succ n ih =>
    refine T.d_checked.def_ sc_checked (fun vs H Q E ⟨_, _, _, _, _, e, _⟩ => by rw [e]; rfl) (fun _ _ _ _ _ _ us hl => match us, hl with | [_, _], _ => rfl) fun f cdv A outer s H vs Q E hr h => ?_
    obtain ⟨Mu, v, u, cs, p, rfl, hn, wl, dv, du, ok, hp, hl, q⟩ := h
    refine ⟨_, PSs.nox (pss_cons (ps_set (i := 2) sc_checked.nd rfl (Or.inl rfl) (pe_lst pa_nil))
      (pss_cons (ps_for PassesOwn.never rfl (pi_enum (by rfl) T.n_enumerate (pa_cons (pv 0) pa_nil)) (pg_tup rfl (pgs_cons (pg_name (i := 3) sc_checked.nd rfl (Or.inl rfl)) (pgs_cons (pg_name (i := 4) sc_checked.nd rfl (Or.inl rfl)) pgs_nil))) (pss_cons (ps_set (i := 5) sc_checked.nd rfl (Or.inr rfl) (pe_tup (StX.pa_star (pv 1) (pa_cons (pv 3) pa_nil))))
      (pss_cons (ps_if (PW.pt (pw_or (pt_cmpR op_gt (len1 T.n_len (pa_cons (pv 5) pa_nil)) (pe_op op_sub (pe_op op_mul pe_int (gcst T.k_MOST_NESTED)) pe_int) (nomark _)) (pw_or1 (pt_not (pt_val (dcall (ok_is_right T) hr (by omega) pass0 (pa_cons (pv 4) pa_nil))))))) (pss_one ps_never) pss_nil)
      (pss_cons (ps_set (i := 6) sc_checked.nd rfl (Or.inl rfl) (dcall (ok_blocks_of T) hr (by omega) pass0 (pa_cons (pv 4) pa_nil)))
      (pss_cons (ps_setLc (i := 9) (own := [("spot", 7), ("block", 8)]) (g := gTup K 2 (gCons (gName 7) (gCons (gName 8) gNil))) (te := tCall (spChecked n) [] E0 (tCons (tVar 8) (tCons (tTup (StX.tStar K (tVar 5) (tCons (tVar 7) tNil))) tNil))) rfl sc_checked.nd rfl rfl (sw_true rfl rfl rfl (by decide +kernel)) (pi_enum (by rfl) T.n_enumerate (pa_cons (pv 6) pa_nil)) (blkOk_by (N := ["commands", "path", "found", "at", "command", "here", "blocks", "spot", "block", "inner"]) (sc := (defScope s_checked)) (by decide +kernel)) (fun _ _ _ _ _ => (pg_tup rfl (pgs_cons (pg_name (i := 7) sc_checked.nd rfl (Or.inl rfl)) (pgs_cons (pg_name (i := 8) sc_checked.nd rfl (Or.inl rfl)) pgs_nil)))) (fun _ _ _ _ _ => pts_nil) (fun _ _ _ _ _ => (dcall ih hr (by omega) pass0 (pa_cons (pv 8) (pa_cons (pe_tup (StX.pa_star (pv 5) (pa_cons (pv 7) pa_nil))) pa_nil)))))
      (pss_one (ps_expr (pe_bm PySem.F.plainAttrs_list PySem.F.slot_list_append PySem.F.type_list_append mt_append (pv 2) (pa_cons (pe_tup (StX.pa_star (pe_slice sl_tupD (pv 4) po_none (po_some (pe_op op_sub (len1 T.n_len (pa_cons (pv 4) pa_nil)) (len1 T.n_len (pa_cons (pv 6) pa_nil))))) (StX.pa_star (pv 9) pa_nil))) pa_nil)))))))))
      (pss_one (ps_ret (pe_callTy cTupOf (by rfl) T.n_tuple bb_tuple (pa_cons (pv 2) pa_nil)))))), ?_⟩
    obtain ⟨a0, xs0, rfl, m0, h0, r0⟩ := dv.asLst
    obtain ⟨a1, xs1, rfl, m1, h1, r1⟩ := du.asTup
    have e1 := dats_ints r1
    have l0 : xs0.length = cs.length := r0.length.trans (List.length_map ..)
    refine ⟨Nat.zero_le _, fun F hF => ?_⟩
    have sF : Same H (upd H F (.lst [])) := same_new hF
    refine ⟨_, rfl, a0, xs0, rfl, SqL.of (sF _ _ h0), ?_⟩
    refine for_dat walk_enum (Mc := fun _ => False) (Mu := Mu) (fun _ z => z.elim) (wl.same sF) upd_same (fun i => (cs.map Cm.chk).take i) .nil (fun σ => ∃ x3 x4 x5 x6 x7 x8 x9, σ = [some (V.ref a0), some (V.ref a1), some (V.ref F), x3, x4, x5, x6, x7, x8, x9]) ⟨_, _, _, _, _, _, _, rfl⟩ (fun H2 k2 => SqL.of (k2.at_ _ _ ?_ (sF _ _ h0))) ?_ ?_
    · exact fun z => z.elim (fun z => z) (ne_of_none h0 hF)
    · rintro i x σ H2 H2' xs nx hi ⟨x3, x4, x5, x6, x7, x8, x9, rfl⟩ k2 wl2 hF2 r2 ⟨T1, x, y, rfl, hT, rfl, hx, hy⟩ hnx
      cases hx
      refine ⟨T1, _, rfl, SqT.of upd_same, rfl, _, _, rfl, _, _, rfl, rfl, ?_⟩
      obtain ⟨d1, hd1, dy⟩ := r0.get hy
      obtain ⟨d, hd, rfl⟩ : ∃ d, cs[i]? = some d ∧ d.law = d1 := by
        rw [List.getElem?_map] at hd1
        cases e : cs[i]? with
        | none =>
          rw [e] at hd1
          cases hd1
        | some d =>
          rw [e] at hd1
          exact ⟨d, rfl, Option.some.inj hd1⟩
      obtain ⟨okd, lvd⟩ := ok d (List.mem_of_getElem? hd)
      have kk : Kp (wi Mu F) (upd H F (.lst [])) H2 := k2.wide fun b m => m.elim (fun z => z.elim) .inr
      have kH : Kp Mu H H2 := kp_new hF kk
      have gF : ∀ {v : V} {d : PyData}, Dat Mu H v d → Dat (wi Mu F) H2 v d := fun h => (h.wiNew hF).keep kH.wiOf
      have s3 : Same H2 (upd H2 T1 (.tup [V.int i, y])) := same_new hT
      -- here
      refine ⟨_, rfl, a1, xs1, rfl, .inl (SqT.of (s3 _ _ (kH.at_ _ _ m1 h1))), _, rfl, ?_, fun p5 np5 => ?_⟩
      · rw [e1, List.length_append, List.length_map]
        exact small_len (by show p.length + 1 ≤ 100; omega)
      have d5 := path_new (wl2.same s3) (i : Int) ((r1.wiNew hF).keep kH.wiOf |>.same s3) np5
      have s5 := s3.trans (same_new (o := .tup (xs1 ++ [V.int i])) np5)
      generalize upd (upd H2 T1 (.tup [V.int i, y])) p5 (.tup (xs1 ++ [V.int i])) = H5 at d5 s5 ⊢
      refine ⟨_, rfl, _, d5.lenT, _, _, rfl, rfl, .inl ⟨by decide, by decide⟩, _, _, rfl, rfl, _, _, rfl, rfl, _, rfl, ?_⟩
      rw [decide_eq_false (by
        simp only [List.length_map, List.length_append, List.length_singleton]
        omega)]
      refine iteF ⟨_, rfl, wi Mu F, y, d, rfl, wl2.same s5, (gF dy).same s5, okd, fun H6 s6 => ⟨_, rfl, iteF ?_⟩⟩
      have s6 := s5.trans s6
      obtain ⟨a, el, hw⟩ := d.law_eq
      have dy6 := (gF dy).same s6
      rw [el] at dy6
      refine ⟨_, rfl, wi Mu F, y, d.w, a, rfl, wl2.same s6, dy6, hw, fun p7 H7 s7 d7 n7 => ?_⟩
      have s7 := s6.trans s7
      obtain ⟨_, xs7, e7, m7, h7, r7⟩ := d7.asLst
      cases e7
      have l7 : xs7.length = (blk d.w a).length := r7.length
      have lb : (blk d.w a).length ≤ 1 := by
        unfold blk
        split <;> simp
      have ebc : ∃ bs : List Cm, (∀ b ∈ bs, b.ok ∧ b.lv + 1 ≤ d.lv) ∧ bs.length ≤ 1 ∧ blk d.w a = bs.map (fun b => .list [b.law]) ∧ d.bc = bs.map (fun b => .tuple [b.chk]) ∧ d.chk = .tuple ((PyData.str d.w :: (if bs = [] then [a] else [])) ++ d.bc) := by
        cases d with
        | one s =>
          refine ⟨[], fun _ h => (List.not_mem_nil h).elim, Nat.zero_le _, ?_, rfl, ?_⟩
          · unfold blk
            rw [if_neg]
            · rfl
            · cases s <;> first | exact fun z => absurd (show ("exact" : Str) = "try" from z) (by decide +kernel) | exact fun z => absurd (show ("intro" : Str) = "try" from z) (by decide +kernel) | exact fun z => absurd (show ("recall" : Str) = "try" from z) (by decide +kernel)
          · cases el
            rfl
        | att s =>
          cases el
          exact ⟨[.one s], fun b h => by rw [List.mem_singleton.mp h]; exact ⟨okd, Nat.le_refl _⟩, Nat.le_refl _, rfl, rfl, rfl⟩
      obtain ⟨bs, hbs, lbs, eb, ec, ek⟩ := ebc
      refine ⟨_, rfl, p7, xs7, rfl, SqL.of h7, fun D hD => ?_⟩
      refine lc_dat walk_enum (Mc := fun _ => False) (Mu := wi Mu F) (fun _ z => z.elim) (wl2.same s7) hD (by rw [l7]; omega) (fun j => d.bc.take j) rfl (fun _ _ => True) trivial (fun _ _ _ _ => trivial) (fun j H0 k0 _ => SqL.of (k0.at_ _ _ ?_ h7)) ?_ ?_
      · exact fun z => z.elim (fun z => z) (ne_of_none h7 hD)
      · rintro j x0 H8 H8' add skip hj k8 wl8 hD8 - ⟨T2, z1, z2, rfl, hT2, rfl, hz1, hz2⟩ ha
        refine fun _ => ?_
        cases hz1
        refine ⟨T2, _, rfl, SqT.of upd_same, rfl, _, _, rfl, _, _, rfl, rfl, rfl, ?_⟩
        obtain ⟨d9, hd9, dd9⟩ := r7.get hz2
        rw [eb, List.getElem?_map] at hd9
        obtain ⟨b, hb, rfl⟩ : ∃ b, bs[j]? = some b ∧ .list [b.law] = d9 := by
          cases e : bs[j]? with
          | none =>
            rw [e] at hd9
            cases hd9
          | some b =>
            rw [e] at hd9
            exact ⟨b, rfl, Option.some.inj hd9⟩
        have j0 : j = 0 := by
          have := (List.getElem?_eq_some_iff.mp hb).1
          omega
        subst j0
        obtain ⟨okb, lvb⟩ := hbs b (List.mem_of_getElem? hb)
        have k8' : Kp (wi (wi Mu F) D) H7 H8 := k8.wide fun b m => m.elim (fun z => z.elim) .inr
        have s8 : Same H8 (upd H8 T2 (.tup [V.int (0 : Nat), z2])) := same_new hT2
        have dz : Dat (wi (wi Mu F) D) (upd H8 T2 (.tup [V.int (0 : Nat), z2])) z2 (.list [b.law]) := ((dd9.wiNew hD).keep k8').same s8
        have dh : Dat (wi (wi Mu F) D) (upd H8 T2 (.tup [V.int (0 : Nat), z2])) (.ref p5) (pathD (p ++ [(i : Int)])) := (((d5.same (Same.trans (by assumption) (by assumption))).wiNew hD).keep k8').same s8
        obtain ⟨_, xs5, e5, m5, h5, r5⟩ := dh.asTup
        cases e5
        have wl9 : Wl (wi (wi Mu F) D) (upd H8 T2 (.tup [V.int (0 : Nat), z2])) := wl8.same s8
        refine ⟨_, rfl, _, rfl, p5, xs5, rfl, .inl (SqT.of h5), _, rfl, ?_, fun p9 np9 => ?_⟩
        · rw [List.length_append, r5.length, List.length_map, List.length_append]
          exact small_len (by show p.length + 1 + 1 ≤ 100; omega)
        · have d9 := path_new wl9 ((0 : Nat) : Int) r5 np9
          have s9 : Same _ (upd (upd H8 T2 (.tup [V.int (0 : Nat), z2])) p9 (.tup (xs5 ++ [V.int ((0 : Nat) : Int)]))) := same_new np9
          refine ⟨wi (wi Mu F) D, z2, .ref p9, [b], p ++ [(i : Int)] ++ [((0 : Nat) : Int)], rfl, ?_, wl9.same s9, dz.same s9, d9, fun b' hb' => ?_, ?_, (by show 1 ≤ 10; decide), fun q2 H9 t9 dq => ?_⟩
          · have : 1 ≤ b.lv := by cases b <;> simp [Cm.lv]
            omega
          · rw [List.mem_singleton.mp hb']
            exact ⟨okb, by omega⟩
          · simp only [List.length_append, List.length_singleton]
            omega
          · have sA := (s8.trans s9).trans t9
            refine ha q2 H9 _ (.of sA) (same_at sA hD8) dq ?_ trivial
            have : bs = [b] := by
              match bs, lbs, hb with
              | [b'], _, hb => rw [Option.some.inj hb]
            rw [ec, this]
            rfl
      · intro H8 xs8 k8 hD8 r8 _ mD
        have kA : Kp (fun _ => False) H2 H8 := (Kp.ofSame s7).trans k8
        have hF8 : H8 F = some (.lst xs) := kA.at_ _ _ (fun z => z) hF2
        have dyA : Dat (wi Mu F) H8 y (.tuple [.str d.w, a]) := by
          have := (gF dy).keep (kA.wide fun _ z => z.elim)
          rw [el] at this
          exact this
        have d7A : Dat (wi Mu F) H8 (.ref p7) (.list (blk d.w a)) := d7.keep (k8.wide fun _ z => z.elim)
        have wlA : Wl (wi Mu F) H8 := wl2.kp kA
        refine ⟨_, rfl, .inl ⟨rfl, _, SqL.of hF8⟩, _, rfl, _, rfl, _, dyA.lenT, _, rfl, _, d7A.lenL, _, _, rfl, rfl, _, rfl, wi Mu F, _, wlA, dyA, fun p9 H9 s9 d9 => ?_⟩
        obtain ⟨_, xs9, e9, m9, h9, r9⟩ := d9.asTup
        cases e9
        have kB : Kp (fun _ => False) H2 H9 := kA.trans (.of s9)
        have hD9 := s9 _ _ hD8
        have r8' : Dats (wi Mu F) H9 xs8 d.bc := by
          have := r8.same s9
          rw [List.take_of_length_le (by rw [l7, eb, ec, List.length_map, List.length_map]; exact Nat.le_refl _)] at this
          exact this
        refine ⟨p9, xs9, rfl, .inl (SqT.of h9), _, rfl, D, xs8, rfl, .inr (SqL.of hD9), ?_, fun pA npA => ?_⟩
        · rw [List.append_nil, List.length_append, r9.length, r8'.length, ec, List.length_map]
          refine small_len ?_
          have : (cutG [PyData.str d.w, a] none (some (([PyData.str d.w, a].length : Int) - (blk d.w a).length))).length ≤ 2 := by
            unfold cutG
            rw [List.length_take, List.length_drop]
            exact Nat.le_trans (Nat.min_le_right _ _) (Nat.sub_le _ _)
          omega
        · have sA : Same H9 (upd H9 pA (.tup (xs9 ++ (xs8 ++ [])))) := same_new npA
          have lx : xs.length ≤ i := by
            rw [r2.length, List.length_take]
            exact Nat.min_le_left _ _
          refine ⟨F, xs, _, rfl, rfl, (sA _ _ (kB.at_ _ _ (fun z => z) hF2)), Nat.lt_of_le_of_lt lx (Nat.lt_of_lt_of_le (by omega : i < 10) (by decide)), ?_⟩
          refine hnx _ _ _ ⟨_, _, _, _, _, _, _, rfl⟩ (((kB.wide fun _ z => z.elim).trans (.of sA)).trans (kp_upd (.inr rfl))) upd_same ?_
          have kC : Kp (wi Mu F) H2 (upd H9 pA (.tup (xs9 ++ (xs8 ++ [])))) := (kB.wide fun _ z => z.elim).trans (.of sA)
          have dn : Dat (wi Mu F) (upd H9 pA (.tup (xs9 ++ (xs8 ++ [])))) (.ref pA) d.chk := by
            rw [ek]
            refine .tup ((wlA.same s9).new npA) upd_same ?_
            refine (Dats.app ?_ (by rw [List.append_nil]; exact r8')).same sA
            rw [eb] at r9
            match bs, lbs, r9 with
            | [], _, r9 => exact r9
            | [b], _, r9 => exact r9
          rw [take_succ (x := d.chk) (by rw [List.getElem?_map, hd]; rfl)]
          exact ((r2.keep kC).app (.cons dn .nil)).keep (kp_upd (.inr rfl))
    · rintro σ H2 xs ⟨x3, x4, x5, x6, x7, x8, x9, rfl⟩ k2 hF2 r2
      have kH : Kp Mu H H2 := kp_new hF (k2.wide fun b m => m.elim (fun z => z.elim) .inr)
      refine ⟨_, rfl, wi Mu F, xs, _, F, (wl.kp kH).wi (by rw [hF2]; exact fun z => by cases z), rfl, SqL.of hF2, r2, fun q0 H3 s3 d3 n3 => ?_⟩
      refine q _ _ ((kp_new hF k2).same (fun _ z => z) |>.trans s3) ?_
      rw [List.take_of_length_le (by rw [l0, List.length_map]; exact Nat.le_refl _)] at d3
      exact d3.less fun b m => .inl m
end
end AG
namespace AG
open PySem PySem.Spec PyProof.Rows L2
section
variable {P : Program} {w : World} {K : PySem.W.Frag} {mg : Str → Option Value} {base : Heap} {c : Cs}
theorem map_at {α β : Type} {f : α → β} {l : List α} {i : Nat} {y : β} (h : (l.map f)[i]? = some y) : ∃ x, l[i]? = some x ∧ f x = y := by
  rw [List.getElem?_map] at h
  cases e : l[i]? with
  | none =>
    rw [e] at h
    cases h
  | some x =>
    rw [e] at h
    exact ⟨x, rfl, Option.some.inj h⟩
theorem Cm.chk_eq (d : Cm) : ∃ a, d.chk = .tuple [.str d.w, a] ∧ (d.w = "exact" ∨ d.w = "intro" ∨ d.w = "recall" ∨ d.w = "try") := by
  cases d with
  | one s => cases s <;> first | exact ⟨_, rfl, .inl rfl⟩ | exact ⟨_, rfl, .inr (.inl rfl)⟩ | exact ⟨_, rfl, .inr (.inr (.inl rfl))⟩
  | att s => exact ⟨_, rfl, .inr (.inr (.inr rfl))⟩
theorem Sc.not_try (s : Sc) : s.w ≠ "try" := by
  cases s <;> first | exact fun z => absurd (show ("exact" : Str) = "try" from z) (by decide +kernel) | exact fun z => absurd (show ("intro" : Str) = "try" from z) (by decide +kernel) | exact fun z => absurd (show ("recall" : Str) = "try" from z) (by decide +kernel)
/-- what the blocks of a held command are -/
theorem Cm.chk_blk (d : Cm) (ok : d.ok) {a : PyData} (el : d.chk = .tuple [.str d.w, a]) : ∃ bs : List Cm, (∀ b ∈ bs, b.ok ∧ b.lv + 1 ≤ d.lv) ∧ bs.length ≤ 1 ∧ blk d.w a = bs.map (fun b => .tuple [b.chk]) ∧ ∀ p i, pairC p i d = pairD (p ++ [i]) d.chk :: bs.flatMap fun b => pairsC (p ++ [i] ++ [0]) 0 [b] := by
  cases d with
  | one s =>
    refine ⟨[], fun _ h => (List.not_mem_nil h).elim, Nat.zero_le _, ?_, fun p i => rfl⟩
    unfold blk
    rw [if_neg (show ¬ (Cm.one s).w = "try" from s.not_try)]
    rfl
  | att s =>
    cases el
    exact ⟨[.one s], fun b h => by rw [List.mem_singleton.mp h]; exact ⟨ok, Nat.le_refl _⟩, Nat.le_refl _, rfl, fun p i => rfl⟩
/-! ### pairs_in -/
def spPairs (n : Nat) : Sp := fun vs H Q _ => ∃ (Mu : Mut1) (v u : V) (cs : List Cm) (p : List Int), vs = [v, u] ∧ 0 < n ∧ Wl Mu H ∧ Dat Mu H v (.tuple (cs.map Cm.chk)) ∧ Dat Mu H u (pathD p) ∧ (∀ d ∈ cs, d.ok ∧ d.lv ≤ n) ∧ p.length + 2 * n ≤ 5 ∧ cs.length ≤ 10 ∧
  ∀ q H', Same H H' → Dat Mu H' (.ref q) (.list (pairsC p 0 cs)) → H q = none → Q (.ref q) H'
theorem sc_pairs_in : FnScope ["commands", "path", "found", "at", "command", "spot", "block"] ["commands", "path"] (defScope s_pairs_in) := ⟨rfl, rfl, rfl, by decide +kernel, rfl, by decide +kernel, by decide +kernel⟩
theorem ok_pairs_in (T : Txt w K mg c) (n : Nat) : Def P w K mg base CX0 "pairs_in" ["commands", "path"] (n + 2) (spPairs n) := by
  induction n with
  | zero =>
    refine T.d_pairs_in.def_ sc_pairs_in (fun vs H Q E ⟨_, _, _, _, _, e, _⟩ => by rw [e]; rfl) (fun _ _ _ _ _ _ us hl => match us, hl with | [_, _], _ => rfl) fun f cdv A outer s H vs Q E hr h => ?_
    obtain ⟨_, _, _, _, _, _, hn, _⟩ := h
    exact absurd hn (Nat.lt_irrefl 0)
  | succ n ih =>
    refine T.d_pairs_in.def_ sc_pairs_in (fun vs H Q E ⟨_, _, _, _, _, e, _⟩ => by rw [e]; rfl) (fun _ _ _ _ _ _ us hl => match us, hl with | [_, _], _ => rfl) fun f cdv A outer s H vs Q E hr h => ?_
    obtain ⟨Mu, v, u, cs, p, rfl, hn, wl, dv, du, ok, hp, hl, q⟩ := h
    refine ⟨_, PSs.nox (pss_cons (ps_set (i := 2) sc_pairs_in.nd rfl (Or.inl rfl) (pe_lst pa_nil))
      (pss_cons (ps_for PassesOwn.never rfl (piEnumT T.n_enumerate (pa_cons (pv 0) pa_nil)) (pg_tup rfl (pgs_cons (pg_name (i := 3) sc_pairs_in.nd rfl (Or.inl rfl)) (pgs_cons (pg_name (i := 4) sc_pairs_in.nd rfl (Or.inl rfl)) pgs_nil))) (pss_cons (ps_expr (pe_bm PySem.F.plainAttrs_list PySem.F.slot_list_append PySem.F.type_list_append mt_append (pv 2) (pa_cons (pe_tup (pa_cons (pe_tup (StX.pa_star (pv 1) (pa_cons (pv 3) pa_nil))) (pa_cons (pv 4) pa_nil))) pa_nil)))
      (pss_one (ps_for PassesOwn.never rfl (pi_enum (by rfl) T.n_enumerate (pa_cons (dcall (ok_blocks_of T) hr (by omega) pass0 (pa_cons (pv 4) pa_nil)) pa_nil)) (pg_tup rfl (pgs_cons (pg_name (i := 5) sc_pairs_in.nd rfl (Or.inl rfl)) (pgs_cons (pg_name (i := 6) sc_pairs_in.nd rfl (Or.inl rfl)) pgs_nil))) (pss_one (ps_expr (pe_bm PySem.F.plainAttrs_list PySem.F.slot_list_extend PySem.F.type_list_extend mt_extend (pv 2) (pa_cons (dcall ih hr (by omega) pass0 (pa_cons (pv 6) (pa_cons (pe_tup (StX.pa_star (pv 1) (pa_cons (pv 3) (pa_cons (pv 5) pa_nil)))) pa_nil))) pa_nil))))))))
      (pss_one (ps_ret (pv 2))))), ?_⟩
    obtain ⟨a0, xs0, rfl, m0, h0, r0⟩ := dv.asTup
    obtain ⟨a1, xs1, rfl, m1, h1, r1⟩ := du.asTup
    have l0 : xs0.length = cs.length := r0.length.trans (List.length_map ..)
    refine ⟨Nat.zero_le _, fun F hF => ?_⟩
    have sF : Same H (upd H F (.lst [])) := same_new hF
    refine ⟨_, rfl, a0, xs0, rfl, SqT.of (sF _ _ h0), ?_⟩
    refine for_dat walk_enumT (Mc := fun _ => False) (Mu := Mu) (fun _ z => z.elim) (wl.same sF) upd_same (fun i => pairsC p 0 (cs.take i)) .nil (fun σ => ∃ x3 x4 x5 x6, σ = [some (V.ref a0), some (V.ref a1), some (V.ref F), x3, x4, x5, x6]) ⟨_, _, _, _, rfl⟩ (fun H2 k2 => SqT.of (k2.at_ _ _ ?_ (sF _ _ h0))) ?_ ?_
    · exact fun z => z.elim (fun z => z) (ne_of_none h0 hF)
    · rintro i x σ H2 H2' xs nx hi ⟨x3, x4, x5, x6, rfl⟩ k2 wl2 hF2 r2 ⟨T1, x, y, rfl, hT, rfl, hx, hy⟩ hnx
      cases hx
      refine ⟨T1, _, rfl, SqT.of upd_same, rfl, _, _, rfl, _, _, rfl, rfl, ?_⟩
      obtain ⟨d1, hd1, dy⟩ := r0.get hy
      obtain ⟨d, hd, rfl⟩ := map_at hd1
      obtain ⟨okd, lvd⟩ := ok d (List.mem_of_getElem? hd)
      have kk : Kp (wi Mu F) (upd H F (.lst [])) H2 := k2.wide fun b m => m.elim (fun z => z.elim) .inr
      have kH : Kp Mu H H2 := kp_new hF kk
      have dyF : Dat (wi Mu F) H2 y d.chk := (dy.wiNew hF).keep kH.wiOf
      have r1F : Dats (wi Mu F) H2 xs1 (p.map PyData.int) := (r1.wiNew hF).keep kH.wiOf
      have h1F : H2 a1 = some (.tup xs1) := kH.at_ _ _ m1 h1
      have lp : xs1.length = p.length := r1.length.trans (List.length_map ..)
      have s3 : Same H2 (upd H2 T1 (.tup [V.int i, y])) := same_new hT
      have lx : xs.length ≤ 2 * i := by
        rw [r2.length]
        refine Nat.le_trans (pairsC_len _ _ _) (Nat.mul_le_mul_left _ ?_)
        rw [List.length_take]
        exact Nat.min_le_left _ _
      have iB : i < 10 := by omega
      -- found.append(((*path, at), command))
      refine ⟨_, rfl, .inl ⟨rfl, _, SqL.of (s3 _ _ hF2)⟩, _, rfl, a1, xs1, rfl, .inl (SqT.of (s3 _ _ h1F)), _, rfl, ?_, fun p5 np5 => ?_⟩
      · rw [List.length_append, lp]
        exact small_len (by show p.length + 1 ≤ 100; omega)
      have d5 := path_new (wl2.same s3) (i : Int) (r1F.same s3) np5
      have s5 := s3.trans (same_new (o := .tup (xs1 ++ [V.int i])) np5)
      generalize upd (upd H2 T1 (.tup [V.int i, y])) p5 (.tup (xs1 ++ [V.int i])) = H5 at d5 s5 ⊢
      refine ⟨_, rfl, (by show 2 ≤ sizeLine; decide), fun p6 np6 => ?_⟩
      have s6 := s5.trans (same_new (o := .tup [V.ref p5, y]) np6)
      have d6 : Dat (wi Mu F) (upd H5 p6 (.tup [V.ref p5, y])) (.ref p6) (pairD (p ++ [(i : Int)]) d.chk) := .tup ((wl2.same s5).new np6) upd_same (.cons (d5.same (same_new np6)) (.cons ((dyF.same s5).same (same_new np6)) .nil))
      generalize upd H5 p6 (.tup [V.ref p5, y]) = H6 at d6 s6 ⊢
      refine ⟨F, xs, _, rfl, rfl, s6 _ _ hF2, Nat.lt_of_lt_of_le (by omega : xs.length < 100) (by decide), ?_⟩
      obtain ⟨a, el, hw⟩ := d.chk_eq
      obtain ⟨bs, hbs, lbs, eb, ec⟩ := d.chk_blk okd el
      have k7 : Kp (wi Mu F) H2 (upd H6 F (.lst (xs ++ [V.ref p6]))) := (Kp.ofSame s6).trans (kp_upd (.inr rfl))
      have r7 : Dats (wi Mu F) (upd H6 F (.lst (xs ++ [V.ref p6]))) (xs ++ [V.ref p6]) (pairsC p 0 (cs.take i) ++ [pairD (p ++ [(i : Int)]) d.chk]) := (r2.keep k7).app (.cons (d6.keep (kp_upd (.inr rfl))) .nil)
      have hF7 : upd H6 F (.lst (xs ++ [V.ref p6])) F = some (.lst (xs ++ [V.ref p6])) := upd_same
      have kF7 : Kp (wi (fun _ => False) F) H2 (upd H6 F (.lst (xs ++ [V.ref p6]))) := (Kp.ofSame s6).trans (kp_upd (.inr rfl))
      generalize upd H6 F (.lst (xs ++ [V.ref p6])) = H7 at k7 r7 hF7 kF7 ⊢
      have wl7 := wl2.kp k7
      have dy7 := dyF.keep k7
      rw [el] at dy7
      refine ⟨_, rfl, wi Mu F, y, d.w, a, rfl, wl7, dy7, hw, fun p8 H8 s8 d8 n8 => ?_⟩
      obtain ⟨_, xs8, e8, m8, h8, r8⟩ := d8.asLst
      cases e8
      have l8 : xs8.length = bs.length := by rw [r8.length, eb, List.length_map]
      have hF8 := s8 _ _ hF7
      refine ⟨p8, xs8, rfl, SqL.of h8, ?_⟩
      have ne8 : p8 ≠ F := fun z => by
        rw [z, hF7] at n8
        cases n8
      refine for_dat walk_enum (Mc := fun _ => False) (Mu := wi Mu F) (fun _ z => z.elim) (wl7.same s8) hF8 (fun j => pairsC p 0 (cs.take i) ++ ([pairD (p ++ [(i : Int)]) d.chk] ++ (bs.take j).flatMap fun b => pairsC (p ++ [(i : Int)] ++ [0]) 0 [b])) ?_ (fun σ => ∃ x4 x5 x6, σ = [some (V.ref a0), some (V.ref a1), some (V.ref F), some (V.int i), x4, x5, x6]) ⟨_, _, _, rfl⟩ (fun H9 k9 => SqL.of (k9.at_ _ _ ?_ h8)) ?_ ?_
      · refine (r7.same s8).grow fun b m => .inl (m.elim id fun e => .inr e)
      · exact fun z => z.elim (fun z => z) ne8
      · rintro j x0 σ H9 H9' ys nx2 hj ⟨y4, y5, y6, rfl⟩ k9 wl9 hF9 r9 ⟨T2, z1, z2, rfl, hT2, rfl, hz1, hz2⟩ hnx2
        cases hz1
        refine ⟨T2, _, rfl, SqT.of upd_same, rfl, _, _, rfl, _, _, rfl, rfl, ?_⟩
        obtain ⟨d9, hd9, dz⟩ := r8.get hz2
        rw [eb] at hd9
        obtain ⟨b, hb, rfl⟩ := map_at hd9
        have j0 : j = 0 := by
          have := (List.getElem?_eq_some_iff.mp hb).1
          omega
        subst j0
        obtain ⟨okb, lvb⟩ := hbs b (List.mem_of_getElem? hb)
        have eB : bs = [b] := by
          match bs, lbs, hb with
          | [b'], _, hb => rw [Option.some.inj hb]
        have gg : ∀ q, wi (wi Mu F) F q → wi Mu F q := fun q m => m.elim id .inr
        have k9' : Kp (wi Mu F) H8 H9 := k9.wide fun q m => m.elim (fun z => z.elim) .inr
        have wl9 : Wl (wi Mu F) H9 := (wl7.same s8).kp k9'
        have kT : Kp (wi Mu F) H2 H9 := (k7.trans (.of s8)).trans k9'
        have s9 : Same H9 (upd H9 T2 (.tup [V.int (0 : Nat), z2])) := same_new hT2
        have h19 : H9 a1 = some (.tup xs1) := kT.at_ _ _ (fun z => z.elim m1 (ne_of_none h1 hF)) h1F
        refine ⟨_, rfl, .inl ⟨rfl, _, SqL.of (s9 _ _ hF9)⟩, _, rfl, _, rfl, a1, xs1, rfl, .inl (SqT.of (s9 _ _ h19)), _, rfl, _, rfl, ?_, fun pA npA => ?_⟩
        · rw [List.length_append, lp]
          exact small_len (by show p.length + 2 ≤ 100; omega)
        have dA : Dat (wi Mu F) (upd (upd H9 T2 (.tup [V.int (0 : Nat), z2])) pA (.tup (xs1 ++ [V.int i, V.int (0 : Nat)]))) (.ref pA) (pathD (p ++ [(i : Int)] ++ [((0 : Nat) : Int)])) := by
          refine .tup ((wl9.same s9).new npA) upd_same ?_
          rw [List.append_assoc, List.map_append]
          exact (((r1F.keep kT).same s9).same (same_new npA)).app (.cons (.int _) (.cons (.int _) .nil))
        have sA := s9.trans (same_new (o := .tup (xs1 ++ [V.int i, V.int (0 : Nat)])) npA)
        generalize upd (upd H9 T2 (.tup [V.int (0 : Nat), z2])) pA (.tup (xs1 ++ [V.int i, V.int (0 : Nat)])) = HA at dA sA ⊢
        refine ⟨wi Mu F, z2, .ref pA, [b], p ++ [(i : Int)] ++ [((0 : Nat) : Int)], rfl, ?_, wl9.same sA, (dz.keep k9').same sA, dA, fun b' hb' => ?_, ?_, (by show 1 ≤ 10; decide), fun q2 HB tB dq nq => ?_⟩
        · have : 1 ≤ b.lv := by cases b <;> simp [Cm.lv]
          omega
        · rw [List.mem_singleton.mp hb']
          exact ⟨okb, by omega⟩
        · simp only [List.length_append, List.length_singleton]
          omega
        · obtain ⟨_, zs, eq, mq, hq, rq⟩ := dq.asLst
          cases eq
          have sB := sA.trans tB
          have lz : zs.length ≤ 2 * 1 := by
            rw [rq.length]
            exact pairsC_len _ _ _
          have ly : ys.length ≤ 2 * i + 3 := by
            rw [r9.length, List.length_append, List.length_append]
            have := pairsC_len p 0 (cs.take i)
            have := List.length_take_le i cs
            simp only [List.take_zero, List.flatMap_nil, List.length_nil, List.length_singleton]
            omega
          refine ⟨F, q2, ys, zs, rfl, rfl, sB _ _ hF9, hq, small_len (by omega), ?_⟩
          refine hnx2 _ _ _ ⟨_, _, _, rfl⟩ ((Kp.ofSame sB).trans (kp_upd (.inr rfl))) upd_same ?_
          have := (((r9.less fun b m => .inl m).same sB).app rq).keep (kp_upd (Mu := wi Mu F) (D := F) (o := .lst (ys ++ zs)) (.inr rfl))
          subst eB
          have e3 : ∀ (A B C : List PyData), A ++ (B ++ ([] : List PyData)) ++ C = A ++ (B ++ (C ++ [])) := fun A B C => by simp
          exact (e3 _ _ _ ▸ this).grow fun b m => .inl (gg b m)
      · rintro σ H9 ys ⟨y4, y5, y6, rfl⟩ k9 hF9 r9
        refine hnx _ _ _ ⟨_, _, _, _, rfl⟩ ((kF7.trans (.of s8)).trans (k9.wide fun b m => m.elim (fun z => z.elim) .inr)) hF9 ?_
        have r9 := r9.less fun b m => .inl m
        rw [l8, List.take_length] at r9
        rw [take_succ hd, pairsC_app]
        show Dats (wi Mu F) H9 ys (_ ++ (pairC p (0 + ((cs.take i).length : Nat)) d ++ []))
        have lt : (0 : Int) + ((cs.take i).length : Nat) = (i : Int) := by
          rw [List.length_take, Nat.min_eq_left (by omega)]
          omega
        rw [lt, List.append_nil, ec]
        exact r9
    · rintro σ H2 xs ⟨x3, x4, x5, x6, rfl⟩ k2 hF2 r2
      have kH : Kp Mu H H2 := kp_new hF (k2.wide fun b m => m.elim (fun z => z.elim) .inr)
      refine ⟨_, rfl, q F H2 ((kp_new hF k2).same (fun _ z => z)) (.lst (wl.new hF) hF2 ?_) hF⟩
      rw [l0, List.take_length] at r2
      exact r2.less fun b m => .inl m
end
end AG
namespace AG
open PySem PySem.Spec PyProof.Rows L2
/-! ### methods, classes, properties that are ready to be called -/
structure MDef (P : Program) (w : World) (K : PySem.W.Frag) (mg : Str → Option Value) (base : Heap) (CX : CXT) (C : Addr) (m : Str) (ps : List Str) (k : Nat) (sp : Sp) : Prop where
  cl : Cls K C
  ex : ∃ (f : Addr) (fd : FuncData), Meth K C m f ∧ FnOk P w K mg base CX k f fd ps sp ∧ Binds K fd ps []
structure KDef (P : Program) (w : World) (K : PySem.W.Frag) (mg : Str → Option Value) (base : Heap) (CX : CXT) (x : Str) (C : Addr) (ps : List Str) (dvs : List V) (k : Nat) (sp : Sp) : Prop where
  at_ : mg x = some (.ref C)
  ex : ∃ (f : Addr) (fd : FuncData) (ds : List Value), Mk K C f ∧ FnOk P w K mg base CX k f fd ps sp ∧ Binds K fd ps ds ∧ Vals dvs ds
structure PDef (P : Program) (w : World) (K : PySem.W.Frag) (mg : Str → Option Value) (base : Heap) (C : Addr) (m : Str) (k : Nat) (sp : Sp) : Prop where
  cl : Cls K C
  ex : ∃ (p f : Addr) (fd : FuncData), PropOf K C m p f ∧ FnOk P w K mg base CX0 k f fd ["self"] sp ∧ Binds K fd ["self"] []
section
variable {X : Cx} {CX : CXT} {k j : Nat} {ps : List Str} {dvs : List V} {sp : Sp} {E : XK} {x m : Str} {C : Addr} {p pos apos : Pos} {e o : Expr} {es : List Expr} {t : TA} {ta : TE}
theorem mcall {pl : Sem Bool} (G : MDef X.prog X.w X.K X.mg X.base CX C m ps k sp) (hr : Room j X.A) (hk : k ≤ j) (hx : Passes CX X E) (he : PE X o ta) (ha : PA X (e :: es) t)
    (hst : starEach (e :: es) X.env = (false, eval e X.env) :: starEach es X.env := by rfl) (hpl : (backTo pos (starEach es X.env)).any (·.1) = false := by rfl)
    (ht : eval (.Call (.Attribute o m apos) (e :: es) [] pos) X.env = (do
      let ov ← eval o X.env
      standAt apos.atName
      let (f, first) ← holding [ov] (getMethod ov m pl)
      callWith pos f first (backTo pos (starEach (e :: es) X.env)) (backToKw pos (keywordEach [] X.env))) := by rfl) : PE X (.Call (.Attribute o m apos) (e :: es) [] pos) (tMeth C m sp [] E ta t) := by
  obtain ⟨f, fd, hm, F, b⟩ := G.ex
  exact pe_meth (pl := pl) he G.cl hm F (hr.mono hk) b .nil hx ha hst hpl ht
theorem mcall0 {pl : Sem Bool} (G : MDef X.prog X.w X.K X.mg X.base CX C m ps k sp) (hr : Room j X.A) (hk : k ≤ j) (hx : Passes CX X E) (he : PE X o ta)
    (ht : eval (.Call (.Attribute o m apos) [] [] pos) X.env = (do
      let ov ← eval o X.env
      standAt apos.atName
      let (f, first) ← holding [ov] (getMethod ov m pl)
      callWith pos f first (backTo pos (starEach [] X.env)) (backToKw pos (keywordEach [] X.env))) := by rfl) : PE X (.Call (.Attribute o m apos) [] [] pos) (tMeth C m sp [] E ta tNil) := by
  obtain ⟨f, fd, hm, F, b⟩ := G.ex
  exact pe_meth0 (pl := pl) he G.cl hm F (hr.mono hk) b .nil hx ht
theorem kcall (G : KDef X.prog X.w X.K X.mg X.base CX x C ps dvs k sp) (hr : Room j X.A) (hk : k + 1 ≤ j) (hx : Passes CX X E) (ha : PA X (e :: es) t) (hg : Gl X x := by rfl) (hdb : (x == ("__debug__" : Str)) = false := by decide +kernel)
    (he : starEach (e :: es) X.env = (false, eval e X.env) :: starEach es X.env := by rfl) (hpl : (backTo pos (starEach es X.env)).any (·.1) = false := by rfl) : PE X (.Call (.Name x p) (e :: es) [] pos) (tMake C sp dvs E t) := by
  obtain ⟨f, fd, ds, M, F, b, d⟩ := G.ex
  exact pe_make M F (hr.mono hk) hg G.at_ b d hx ha hdb he hpl
theorem pget (G : PDef X.prog X.w X.K X.mg X.base C m k sp) (hr : Room j X.A) (hk : k + 1 ≤ j) (he : PE X o ta) (hab : attributeBase o m X.env (eval o X.env) = eval o X.env := by rfl) : PE X (.Attribute o m pos) (tProp C sp [] E0 ta) := by
  obtain ⟨q, f, fd, hp, F, b⟩ := G.ex
  exact pe_prop he G.cl hp F (hr.mono hk) b .nil pass0 hab
end
theorem MethD.def_ {P : Program} {w : World} {K : PySem.W.Frag} {mg : Str → Option Value} {base : Heap} {CX : CXT} {C : Addr} {m qual : Str} {st : Stmt} {N ps : List Str} {k : Nat} {sp : Sp} (T : MethD K C m qual st [] []) (cl : Cls K C) (S : FnScope N ps (defScope st)) (len : ∀ vs H Q E, sp vs H Q E → vs.length = ps.length)
    (hb : ∀ (kV doc pm : Value) (an : Option Addr) (cdv ct : Value) (us : List Value), us.length = ps.length → bindArgs (PySem.W.fnOf m qual (defArgs st) (defBody st) (defScope st) .none kV doc pm an cdv ct) ⟨us, []⟩ = pure (ps.zip us))
    (hbody : ∀ (f : Addr) (cdv : Value) (A : Around) (outer : List Env) (s : Shared) (H : Hp) (vs : List V) (Q : VK) (E : XK), Room k (A.deeper (envOfC qual (defScope st) s.heap.objs.size f cdv)) → sp vs H Q E →
      ∃ t, PSs (cxOf CX P w K mg base N qual (defScope st) f cdv A outer s H E) (defBody st) t ∧ t { nx := fun _ H' => Q .non H', rt := Q } (start N vs) H) : MDef P w K mg base CX C m ps (k + 1) sp := by
  obtain ⟨f, fd, hm, F⟩ := T.ex
  exact ⟨cl, f, fd, hm, F.ok S len fun cdv A outer s H vs Q E hr hs => hbody f cdv A outer s H vs Q E hr hs, F.bindsN hb⟩
theorem PropD.def_ {P : Program} {w : World} {K : PySem.W.Frag} {mg : Str → Option Value} {base : Heap} {C : Addr} {m qual : Str} {st : Stmt} {N : List Str} {k : Nat} {sp : Sp} (T : PropD K C m qual st) (cl : Cls K C) (S : FnScope N ["self"] (defScope st)) (len : ∀ vs H Q E, sp vs H Q E → vs.length = 1)
    (hb : ∀ (kV doc pm : Value) (an : Option Addr) (cdv ct : Value) (us : List Value), us.length = 1 → bindArgs (PySem.W.fnOf m qual (defArgs st) (defBody st) (defScope st) .none kV doc pm an cdv ct) ⟨us, []⟩ = pure ([("self" : Str)].zip us))
    (hbody : ∀ (f : Addr) (cdv : Value) (A : Around) (outer : List Env) (s : Shared) (H : Hp) (vs : List V) (Q : VK) (E : XK), Room k (A.deeper (envOfC qual (defScope st) s.heap.objs.size f cdv)) → sp vs H Q E →
      ∃ t, PSs (cxOf CX0 P w K mg base N qual (defScope st) f cdv A outer s H E) (defBody st) t ∧ t { nx := fun _ H' => Q .non H', rt := Q } (start N vs) H) : PDef P w K mg base C m (k + 1) sp := by
  obtain ⟨p, f, fd, hp, F⟩ := T.ex
  exact ⟨cl, p, f, fd, hp, F.ok S len fun cdv A outer s H vs Q E hr hs => hbody f cdv A outer s H vs Q E hr hs, F.bindsN hb⟩
/-! ### instances -/
abbrev Row := Str × Fm
def Row.d (r : Row) : PyData := .tuple [.str r.1, r.2.d]
def rowsD (rs : List Row) : List PyData := rs.map Row.d
structure RowOk (r : Row) : Prop where
  nm : NameOk r.1
  fm : r.2.ok
  dp : r.2.deep ≤ 3
/-- an instance of the class at C with these fields, at an address that does not change -/
def Ins (Mu : Mut1) (H : Hp) (C : Addr) (v : V) (fs : List (Str × V)) : Prop := ∃ a dx, v = .ref a ∧ ¬ Mu a ∧ H a = some (.ins C dx fs)
theorem Ins.keep {Mu : Mut1} {H H' : Hp} {C : Addr} {v : V} {fs : List (Str × V)} (h : Ins Mu H C v fs) (k : Kp Mu H H') : Ins Mu H' C v fs := by
  obtain ⟨a, dx, e, m, h⟩ := h
  exact ⟨a, dx, e, m, k.at_ _ _ m h⟩
theorem Ins.grow {Mu Mv : Mut1} {H : Hp} {C : Addr} {v : V} {fs : List (Str × V)} (g : ∀ b, Mv b → Mu b ∨ H b = none) (h : Ins Mu H C v fs) : Ins Mv H C v fs := by
  obtain ⟨a, dx, e, m, h⟩ := h
  refine ⟨a, dx, e, fun q => (g _ q).elim m fun n => ?_, h⟩
  rw [h] at n
  cases n
/-- a Context of these rows -/
def Ctx (c : Cs) (Mu : Mut1) (H : Hp) (v : V) (rs : List Row) : Prop := ∃ t, Ins Mu H c.Context v [("held", t)] ∧ Dat Mu H t (.tuple (rowsD rs))
/-- a Script of these commands -/
def Scr (c : Cs) (Mu : Mut1) (H : Hp) (v : V) (cs : List Cm) : Prop := ∃ t u, Ins Mu H c.Script v [("held", t), ("whole", u)] ∧ Dat Mu H t (.tuple (cs.map Cm.chk)) ∧ Dat Mu H u (.tuple (pairsC [] 0 cs))
theorem Ctx.keep {c : Cs} {Mu : Mut1} {H H' : Hp} {v : V} {rs : List Row} (h : Ctx c Mu H v rs) (k : Kp Mu H H') : Ctx c Mu H' v rs := let ⟨t, i, d⟩ := h; ⟨t, i.keep k, d.keep k⟩
theorem Scr.keep {c : Cs} {Mu : Mut1} {H H' : Hp} {v : V} {cs : List Cm} (h : Scr c Mu H v cs) (k : Kp Mu H H') : Scr c Mu H' v cs := let ⟨t, u, i, d, e⟩ := h; ⟨t, u, i.keep k, d.keep k, e.keep k⟩
theorem Ctx.grow {c : Cs} {Mu Mv : Mut1} {H : Hp} {v : V} {rs : List Row} (g : ∀ b, Mv b → Mu b ∨ H b = none) (h : Ctx c Mu H v rs) : Ctx c Mv H v rs := let ⟨t, i, d⟩ := h; ⟨t, i.grow g, d.grow g⟩
theorem Scr.grow {c : Cs} {Mu Mv : Mut1} {H : Hp} {v : V} {cs : List Cm} (g : ∀ b, Mv b → Mu b ∨ H b = none) (h : Scr c Mu H v cs) : Scr c Mv H v cs := let ⟨t, u, i, d, e⟩ := h; ⟨t, u, i.grow g, d.grow g, e.grow g⟩
/-- a new instance and its dict -/
theorem same_ins {H : Hp} {x dx C : Addr} (nx : H x = none) (nd : H dx = none) (ne : dx ≠ x) : Same H (upd (upd H dx (.own x)) x (.ins C dx [])) := fun b o e => by
  rw [upd_ne (ne_of_none e nx), upd_ne (ne_of_none e nd)]
  exact e
end AG
namespace AG
open PySem PySem.Spec PyProof.Rows L2 GenW
theorem inv_gens {X : Cx} {pins : List (Addr × Obj)} {σ : L2.St} {H : Hp} {s : Shared} (I : Inv X pins σ H s) {G : Array GenState} (hg : AllBare G) : Inv X pins σ H { s with gens := G } := ⟨I.ok, I.os, hg, I.base, I.loc, I.cell, I.free, I.freeC, I.pin, I.hok, I.len⟩
/-- back from a state with other generators -/
theorem inv_gensBack {X : Cx} {pins : List (Addr × Obj)} {σ : L2.St} {H : Hp} {s : Shared} {G : Array GenState} (I : Inv X pins σ H { s with gens := G }) (hg : AllBare G → AllBare s.gens) : Inv X pins σ H s := ⟨I.ok, I.os, hg I.bare, I.base, I.loc, I.cell, I.free, I.freeC, I.pin, I.hok, I.len⟩
/-- beside a sleeper, where nothing is raised -/
theorem asleepF {M : Model} {α : Type} {A : Around} {t : Sem α} {Q Q' : α → Shared → Prop} {E : Value → Shared → Prop} {s : Shared} {g : Nat} {x : GenState} (hg : s.gens[g]? = some x) (hx : isSusp x = true) (h : wpAny M A t Q (fun _ _ => False) { s with gens := s.gens.map frz })
    (q : ∀ a s1 G, s1.gens[g]? = some x → Q a { s1 with gens := G } → (AllBare G → AllBare s1.gens) → Q' a s1) : wpAny M A t Q' E s :=
  wpAny_mono (asleep hg hx h) (fun a s1 ⟨h1, G, h2, h3⟩ => q a s1 G h1 h2 h3) fun _ _ ⟨_, z, _⟩ => z.elim
/-- an iterator over the tuple at t, the tuple xs -/
def Itg (t : Addr) (xs : List V) : It := ⟨fun i H => H t = some (.tup xs) ∧ i < xs.length, fun i H x H' => H' = H ∧ xs[i]? = some x, fun i H => H t = some (.tup xs) ∧ xs.length ≤ i⟩
theorem walk_gen {t : Addr} {xs : List V} : Walk (Itg t xs) xs.length (fun H => H t = some (.tup xs)) (YAt xs) := ⟨fun _ _ hi q => ⟨q, hi⟩, fun _ q => ⟨q, Nat.le_refl _⟩, fun _ _ _ _ _ _ y => y⟩
theorem hok_tup {P : Program} {w : World} {H : Hp} {h : Heap} {t : Addr} {xs : List V} (k : HOk P w H h) (e : H t = some (.tup xs)) : TupV h t xs := by
  obtain ⟨_, its, r, q⟩ := k t _ e
  exact ⟨its, r, q⟩
/-- where the generator stands ahead of turn i -/
def Tn (P : Program) (w : World) (A : Around) (FpI : Hp → Addr → Prop) (ga g t : Addr) (xs : List V) (N : Nat) (h0 : Heap) (code : Code) (i : Nat) (H : Hp) (s : Shared) : Prop :=
  s.heap.IsGen ga g ∧ ((i = 0 ∧ s.gens[g]? = some (.fresh code) ∧ ∀ b o, h0.get? b = some o → s.heap.get? b = some o) ∨
    ∃ it gs, it ≠ ga ∧ s.gens[g]? = some gs ∧ isSusp gs = true ∧ IsTupIter s.heap it t i ∧ FpI H it ∧ ∀ z, IsTupIter z.heap it t i → TupV z.heap t xs → gs.Goes (model P w) A (RP it xs N) (YP it t xs N) (N - i) (.send .none) z)
/-- a call that gives a generator over a tuple -/
abbrev TGw := L2.St → Hp → (Addr → List V → Hp → Prop) → Prop
def GenAt (X : Cx) (pins : List (Addr × Obj)) (σ : L2.St) (R : Addr → List V → Hp → Prop) (u : Value) (s1 : Shared) : Prop :=
  ∃ ga g code t xs H1, u = .ref ga ∧ Inv X pins σ H1 s1 ∧ FpOk X pins H1 ga ∧ ga < s1.heap.objs.size ∧ s1.heap.IsGen ga g ∧ s1.gens[g]? = some (.fresh code) ∧ H1 t = some (.tup xs) ∧ R t xs H1 ∧
    ∀ (B : Around) (s2 : Shared), B.handled = none → (∀ b o, s1.heap.get? b = some o → s2.heap.get? b = some o) → TupV s2.heap t xs → Seg (model X.prog X.w) B (RP s2.heap.objs.size xs (xs.length + 1)) (YP s2.heap.objs.size t xs (xs.length + 1)) (xs.length + 1) s2 code ((model X.prog X.w).den code) [] s2
structure PGw (X : Cx) (e : Expr) (tw : TGw) : Prop where
  run : ∀ (pins : List (Addr × Obj)) (s : Shared) (σ : L2.St) (H : Hp) (R : Addr → List V → Hp → Prop), Inv X pins σ H s → tw σ H R → wpAny (model X.prog X.w) X.A (eval e X.env) (GenAt X pins σ R) X.xe s
end AG
namespace AG
open PySem PySem.Spec PyProof.Rows L2 GenW
section
variable {X : Cx}
/-- [elt for target in g if ..], g a generator over a tuple -/
def tLcG (tw : TGw) (g : TG) (tt : TT) (te : TE) (vs : List Nat) : TE := fun σ H Q => tw σ H fun t xs H1 => ∀ D, H1 D = none → ∃ W : Nat → Nat → Hp → Prop, (∃ m, W 0 m (upd H1 D (.lst []))) ∧ ∀ i m H, W i m H →
  ((Itg t xs).stop i H ∧ Q (.ref D) H) ∨ ((Itg t xs).go i H ∧ ∃ Nx : Hp → Prop, (∀ H', Nx H' → ∃ m', m' < m ∧ W (i + 1) m' H') ∧ ∀ x H', (Itg t xs).yld i H x H' → g x (wipe σ vs) H' fun σ2 H2 => wipe σ2 vs = wipe σ vs ∧ tt σ2 H2 fun b H3 =>
    if b = true then te σ2 H3 fun y H4 => ∃ acc, H4 D = some (.lst acc) ∧ acc.length < sizeLine ∧ Nx (upd H4 D (.lst (acc ++ [y]))) else Nx H3)
theorem fp_blk {s0 : Shared} {H0 : Hp} {scope : Scope} {ce : Env} {fp : List Addr} {σ : L2.St} {H : Hp} {s : Shared} {b : Addr} (I : Inv (X.blk s0 H0 scope ce fp) [] σ H s) (hb : b ∈ fp) (n : H b = none) : FpOk (X.blk s0 H0 scope ce fp) [] H b :=
  ⟨n, (I.ok.exf b hb).1, I.ok.exfs b hb, .inl hb, fun x c e => (I.ok.exf b hb).2 x c e, fun p hp => absurd (show p ∈ ([] : List (Addr × Obj)) ++ [] from hp) (by simp)⟩
theorem fp_next {pins : List (Addr × Obj)} {H H' : Hp} {b : Addr} (h : FpOk X pins H b) (n : H' b = none) : FpOk X pins H' b := ⟨n, h.2⟩
theorem isGen_obj {h : Heap} {a : Addr} {g : Nat} (x : h.IsGen a g) : ∃ o, h.get? a = some o ∧ ∀ v, o.data ≠ .cell v := by
  obtain ⟨o, nm, qn, ho, _, hd, _⟩ := x
  exact ⟨o, ho, fun v z => by rw [hd] at z; cases z⟩
theorem isIter_obj {h : Heap} {a t : Addr} {i : Nat} (x : IsTupIter h a t i) : ∃ o, h.get? a = some o ∧ ∀ v, o.data ≠ .cell v := by
  obtain ⟨o, ho, _, hd⟩ := x
  exact ⟨o, ho, fun v z => by rw [hd] at z; cases z⟩
/-- a turn of the generator: an item comes, all is as it was -/
theorem gen_item {pins : List (Addr × Obj)} {σ : L2.St} {H : Hp} {s : Shared} {ga g t : Addr} {xs : List V} {h0 : Heap} {code : Code} {i : Nat} {Q : Option Value → Shared → Prop} {E : Value → Shared → Prop} (hc : X.calm = true) (I : Inv X pins σ H s) (rm : X.A.depth < recursionLimit)
    (fg : FpOk X pins H ga) (wake : ∀ (B : Around) (s2 : Shared), B.handled = none → (∀ b o, h0.get? b = some o → s2.heap.get? b = some o) → TupV s2.heap t xs → Seg (model X.prog X.w) B (RP s2.heap.objs.size xs (xs.length + 1)) (YP s2.heap.objs.size t xs (xs.length + 1)) (xs.length + 1) s2 code ((model X.prog X.w).den code) [] s2)
    (ht : H t = some (.tup xs)) (hi : i ≤ xs.length) (T : Tn X.prog X.w X.A.in1 (FpOk X pins) ga g t xs (xs.length + 1) h0 code i H s)
    (yes : ∀ x u s1, xs[i]? = some x → RelV x u → Inv X pins σ H s1 → Tn X.prog X.w X.A.in1 (FpOk X pins) ga g t xs (xs.length + 1) h0 code (i + 1) H s1 → (∃ gs it, it ≠ ga ∧ s1.gens[g]? = some gs ∧ isSusp gs = true ∧ FpOk X pins H it ∧ IsTupIter s1.heap it t (i + 1) ∧ ∀ z, IsTupIter z.heap it t (i + 1) → TupV z.heap t xs → gs.Goes (model X.prog X.w) X.A.in1 (RP it xs (xs.length + 1)) (YP it t xs (xs.length + 1)) (xs.length + 1 - (i + 1)) (.send .none) z) → Q (some u) s1)
    (no : ∀ s1, i = xs.length → Inv X pins σ H s1 → Q none s1) : wpAny (model X.prog X.w) X.A (pyNext (.ref ga)) Q E s := by
  obtain ⟨hgen, T⟩ := T
  have hA := I.ok.hd hc
  have nga : s.heap.get? ga ≠ none := let ⟨o, ho, _⟩ := isGen_obj hgen; fun z => by rw [ho] at z; cases z
  -- what it is woken with
  obtain ⟨it, gs, ne, hgs, fi, go⟩ : ∃ it gs, it ≠ ga ∧ s.gens[g]? = some gs ∧ FpOk X pins H it ∧ gs.Goes (model X.prog X.w) X.A.in1 (RP it xs (xs.length + 1)) (YP it t xs (xs.length + 1)) (xs.length + 1 - i) (.send .none) (s.setGen g .running) := by
    rcases T with ⟨rfl, hf, ext⟩ | ⟨it, gs, ne, hgs, _, hit, fi, go⟩
    · refine ⟨s.heap.objs.size, .fresh code, fun z => ?_, hf, I.fpOk (Nat.le_refl _) (I.hok.fresh (Nat.le_refl _)), rfl, ?_⟩
      · obtain ⟨o, ho, _⟩ := isGen_obj hgen
        have := Heap.lt_size ho
        rw [z] at this
        exact Nat.lt_irrefl _ this
      · exact wake X.A.in1 (s.setGen g .running) hA ext (hok_tup I.hok ht)
    · exact ⟨it, gs, ne, hgs, fi, go _ hit (hok_tup I.hok ht)⟩
  have lg : g < s.gens.size := (Array.getElem?_eq_some_iff.mp hgs).1
  have back : ∀ {z : Shared}, Moved it (s.setGen g .running) z → Inv X pins σ H { s with heap := z.heap, toks := z.toks } ∧ z.gens = (s.setGen g .running).gens ∧ z.drawn = s.drawn ∧ z.os = s.os ∧ z.heap.IsGen ga g := fun {z} mv => by
    obtain ⟨h, tk, rfl, kp⟩ := mv
    obtain ⟨f0, f1, f2, f3, f4, f5⟩ := fi
    obtain ⟨o, nm, qn, ho, r⟩ := hgen
    exact ⟨I.turned (t' := tk) kp f0 f1 f3 f4 f5, rfl, rfl, rfl, o, nm, qn, kp _ _ (Ne.symm ne) ho, r⟩
  have rest : ∀ {z : Shared} {x : GenState}, Moved it (s.setGen g .running) z → x.bare = true → Inv X pins σ H (z.setGen g x) := fun {z x} mv hx => by
    obtain ⟨I1, eg, ed, eo, _⟩ := back mv
    have e : z.setGen g x = { ({ s with heap := z.heap, toks := z.toks } : Shared) with gens := (z.setGen g x).gens } := by
      obtain ⟨h, tk, rfl, kp⟩ := mv
      rfl
    rw [e]
    refine inv_gens I1 (allBare_setGen ?_ hx)
    rw [eg]
    exact allBare_setGen I.bare rfl
  refine next_free hA I.nolimit rm hgen hgs go (fun v z gs' hs hb hy => ?_) fun z hf h' hk => ?_
  · obtain ⟨j, x, hn, hx, rx, mv, hit, kap⟩ := hy
    have lj : j < xs.length := (List.getElem?_eq_some_iff.mp hx).1
    obtain rfl : j = i := by omega
    have I2 := rest mv hb
    obtain ⟨_, eg, _, _, hg2⟩ := back mv
    have at2 : (z.setGen g gs').gens[g]? = some gs' := setGen_at (by rw [eg, setGen_size]; exact lg)
    have en : xs.length + 1 - j = (xs.length + 1 - (j + 1)) + 1 := by omega
    have go2 : ∀ z', IsTupIter z'.heap it t (j + 1) → TupV z'.heap t xs → gs'.Goes (model X.prog X.w) X.A.in1 (RP it xs (xs.length + 1)) (YP it t xs (xs.length + 1)) (xs.length + 1 - (j + 1)) (.send .none) z' := fun z' a b => by
      have q := kap z' a b
      generalize xs.length + 1 - j = nn at en q
      subst en
      exact q
    exact yes x v _ hx rx I2 ⟨hg2, .inr ⟨it, gs', ne, at2, hs, hit, fi, go2⟩⟩ ⟨gs', it, ne, at2, hs, fi, hit, go2⟩
  · obtain ⟨hn, mv⟩ := hf
    have I2 := rest (x := .finished) mv rfl
    exact no _ (by omega) (I2.kept (t' := (z.setGen g .finished).toks) hk)

theorem lcG_core {pins : List (Addr × Obj)} {s : Shared} {σ : L2.St} {H : Hp} {Q : VK} {elt tg iter : Expr} {ifs : List Expr} {scope : Scope} {own : List (Str × Nat)} {pos pos' : Pos} {tw : TGw} {g : TG} {tt : TT} {te : TE} {use : Option (Value → Sem Unit)} {Qf : Value → Shared → Prop} (hc : X.calm = true) (rm : X.A.depth < recursionLimit) (hN : X.N.Nodup)
    (I : Inv X pins σ H s) (hi : PGw X iter tw) (ok : BlkOk X.N X.env.scope scope own) (hg : ∀ (s : Shared) (H : Hp) (C : Addr) (cl : List (Str × Addr)) (fp : List Addr), PG (X.blk s H scope (compEnvC scope cl C X.env) fp) tg g)
    (hp : ∀ (s : Shared) (H : Hp) (C : Addr) (cl : List (Str × Addr)) (fp : List Addr), PTs (X.blk s H scope (compEnvC scope cl C X.env) fp) ifs tt) (he : ∀ (s : Shared) (H : Hp) (C : Addr) (cl : List (Str × Addr)) (fp : List Addr), PE (X.blk s H scope (compEnvC scope cl C X.env) fp) elt te)
    (hs : ∀ x, foldedSetIterable iter X.env x = pure x) (h : tLcG tw g tt te (own.map (·.2)) σ H Q)
    (fin : ∀ D C s' m H', Inv X pins σ H' s' → Q (.ref D) H' → s'.heap.Ns C m → FpOk X pins H' C → compPost (model X.prog X.w) X.A X.xe use Qf (.ref D) C (.ok .next) s') :
    wpAny (model X.prog X.w) X.A (comprehension (.ListComp elt [⟨tg, iter, ifs, 0⟩] scope pos) scope X.env pos' (newList []) false (eval iter X.env) use) Qf X.xe s := by
  have free : ∀ y ∈ scope.names, y.2 = .free → ∃ c, X.env.cells.lookup y.1 = some c := fun y hy e => (ok.free y hy e).elim (fun k => I.ok.has _ (.inl k)) fun k => I.ok.has _ (.inr k)
  refine wpAny_comprehension_free (use := use) rfl hs (closure_ok free) ok.kind (fun y hy e => by rw [ok.uniq y hy, e]) (thn (hi.run pins s σ H _ I h) fun u s2 h2 => ?_)
  obtain ⟨ga, gn, code, t, xs, H2, rfl, I2, fg, lga, hgen, hfr, ht, q, wake⟩ := h2
  refine wpAny_pyIter_gen hgen (wpAny_newObj_type (newEnv_comp ?_) (by show 0 ≤ sizeLine; decide))
  obtain ⟨D, eD⟩ : ∃ D, D = s2.heap.objs.size := ⟨_, rfl⟩
  rw [← eD]
  have nD : H2 D = none := I2.hok.fresh (Nat.le_of_eq eD.symm)
  obtain ⟨W, ⟨m0, w0⟩, turn⟩ := q D nD
  have k3 : ∀ b o, s2.heap.get? b = some o → (s2.heap.push { cls := .type "list", data := .seq ([] : List Value).toArray }).get? b = some o := fun b o e => Heap.get?_push_of_some _ e
  obtain ⟨s3, es3⟩ : ∃ z : Shared, z = { s2 with heap := s2.heap.push { cls := .type "list", data := .seq ([] : List Value).toArray } } := ⟨_, rfl⟩
  have I3 : Inv X pins σ (upd H2 D (.lst [])) s3 := by
    rw [es3]
    refine I2.laid (t' := s2.toks) k3 (Nat.le_of_eq eD.symm) ⟨Nat.zero_le _, [], 0, .nil, ?_⟩
    rw [eD]
    exact Heap.get?_push_size _ rfl
  have z3 : s3.heap.objs.size = s2.heap.objs.size + 1 := by
    rw [es3]
    exact Heap.size_push ..
  have gaD : ga ≠ D := by
    rw [eD]
    exact Nat.ne_of_lt lga
  have f3 : FpOk X pins (upd H2 D (.lst [])) ga := fp_next fg (by rw [upd_ne gaD]; exact fg.1)
  have I4 := block_start (fp := [ga]) I3 ok hN fun b hb => by
    rw [List.mem_singleton.mp hb, z3]
    exact ⟨f3, Nat.lt_succ_of_lt lga⟩
  have pg := hg s3 (upd H2 D (.lst [])) s3.heap.objs.size (cellsFrom (s3.heap.objs.size + 1) scope.names (cloFrom X.env.cells scope.names [])) [ga]
  have pt := hp s3 (upd H2 D (.lst [])) s3.heap.objs.size (cellsFrom (s3.heap.objs.size + 1) scope.names (cloFrom X.env.cells scope.names [])) [ga]
  have pe := he s3 (upd H2 D (.lst [])) s3.heap.objs.size (cellsFrom (s3.heap.objs.size + 1) scope.names (cloFrom X.env.cells scope.names [])) [ga]
  obtain ⟨ce, ece⟩ : ∃ ce, ce = compEnvC scope (cellsFrom (s3.heap.objs.size + 1) scope.names (cloFrom X.env.cells scope.names [])) s3.heap.objs.size X.env := ⟨_, rfl⟩
  have cL : ce.locals = s3.heap.objs.size := by rw [ece]; rfl
  obtain ⟨s4, es4⟩ : ∃ z : Shared, z = { s3 with heap := pushCells (s3.heap.push { cls := .type "dict", data := .dict #[] }) scope.names } := ⟨_, rfl⟩
  have k4 : ∀ b o, s2.heap.get? b = some o → s4.heap.get? b = some o := fun b o e => by
    rw [es4]
    refine pushCells_keeps _ _ _ _ (Heap.get?_push_of_some _ ?_)
    rw [es3]
    exact k3 b o e
  have g4 : s4.gens = s2.gens := by rw [es4, es3]
  rw [← es4, ← ece] at I4
  rw [← ece] at pg pt pe
  obtain ⟨H3, eH3⟩ : ∃ z, z = upd H2 D (.lst []) := ⟨_, rfl⟩
  rw [← eH3] at I3 I4 pg pt pe w0 f3
  have goal : codeAny (model X.prog X.w) X.A (.compStart (.ListComp elt [⟨tg, iter, ifs, 0⟩] scope pos) 0 (.ref ga) (.ref D) ce) (compPost (model X.prog X.w) X.A X.xe use Qf (.ref D) s3.heap.objs.size) s4 := by
    have ht3 : H3 t = some (.tup xs) := by
      rw [eH3, upd_ne (ne_of_none ht nD)]
      exact ht
    have loop : codeAny (model X.prog X.w) X.A (.compLoop (.ListComp elt [⟨tg, iter, ifs, 0⟩] scope pos) 0 (.ref ga) (.ref D) ce) (compPost (model X.prog X.w) X.A X.xe use Qf (.ref D) s3.heap.objs.size) s4 := by
      refine compLoop_any (fun n s' => ∃ i H', i ≤ xs.length ∧ Inv (X.blk s3 H3 scope ce [ga]) [] (wipe σ (own.map (·.2))) H' s' ∧ Tn X.prog X.w X.A.in1 (FpOk (X.blk s3 H3 scope ce [ga]) []) ga gn t xs (xs.length + 1) s2.heap code i H' s' ∧ H' ga = none ∧ W i n H') ?_ m0
        ⟨0, H3, Nat.zero_le _, I4, ⟨hgen.keeps k4, .inl ⟨rfl, by rw [g4]; exact hfr, k4⟩⟩, f3.1, w0⟩
      rintro n s5 ⟨i, H5, hi5, I5, T5, n5, w5⟩
      rcases turn i n H5 w5 with ⟨⟨ht5, stop⟩, qq⟩ | ⟨⟨ht5, go⟩, Nx, hNx, step⟩
      · refine gen_item (X := X.blk s3 H3 scope ce [ga]) (E := fun e s' => _) hc I5 rm (fp_blk I5 (List.mem_singleton.mpr rfl) n5) wake ht5 hi5 T5 (fun x u s6 hx _ _ _ _ => absurd (List.getElem?_eq_some_iff.mp hx).1 (Nat.not_lt.mpr stop)) fun s6 _ I6 => ?_
        have I7 : Inv X pins σ H5 s6 := I3.call' (ch := [ga]) I6.os I6.base I6.hok I6.bare fun b hb => by
          rw [List.mem_singleton.mp hb]
          exact ⟨f3.2.2.2.1, f3.2.1, f3.2.2.2.2.1, f3.2.2.2.2.2⟩
        have nC : H5 s3.heap.objs.size = none := by
          rw [← cL]
          exact I6.free
        obtain ⟨m, hn, _⟩ := I6.loc
        have hn : s6.heap.Ns ce.locals m := hn
        rw [cL] at hn
        exact fin D s3.heap.objs.size s6 m H5 I7 qq hn (I3.fpOk (Nat.le_refl _) nC)
      · refine gen_item (X := X.blk s3 H3 scope ce [ga]) hc I5 rm (fp_blk I5 (List.mem_singleton.mpr rfl) n5) wake ht5 hi5 T5 (fun x u s6 hx ru I6 T6 ⟨gs, it, ne, hgs, hsu, fi, hit, kap⟩ => ?_) fun s6 e _ => absurd e (Nat.ne_of_lt go)
        obtain ⟨og, hog, dog⟩ := isGen_obj T6.1
        obtain ⟨oi, hoi, doi⟩ := isIter_obj hit
        obtain ⟨o1, nm, qn, ho1, hc1, hd1, hs1⟩ := id T6.1
        refine go_of ho1 hc1 hd1 (by decide) ?_
        have fg6 := fp_blk I6 (List.mem_singleton.mpr rfl) n5
        have I6p : Inv (X.blk s3 H3 scope ce [ga]) ([] ++ pinsAt [ga, it] s6.heap) (wipe σ (own.map (·.2))) H5 s6 := I6.pinned (fun b hb => by
          rcases List.mem_cons.mp hb with z | z
          · rw [z]
            exact fg6
          · rw [List.mem_singleton.mp z]
            exact fi) fun b hb => by
          rcases List.mem_cons.mp hb with z | z
          · rw [z]
            exact ⟨og, hog, dog⟩
          · rw [List.mem_singleton.mp z]
            exact ⟨oi, hoi, doi⟩
        -- the turn's end
        have done : ∀ {s' : Shared} {H' : Hp} {σ' : L2.St}, wipe σ' (own.map (·.2)) = wipe σ (own.map (·.2)) → s'.gens[gn]? = some gs → Inv (X.blk s3 H3 scope ce [ga]) ([] ++ pinsAt [ga, it] s6.heap) σ' H' s' → Nx H' →
            ∃ m, m < n ∧ ∃ i H', i ≤ xs.length ∧ Inv (X.blk s3 H3 scope ce [ga]) [] (wipe σ (own.map (·.2))) H' s' ∧ Tn X.prog X.w X.A.in1 (FpOk (X.blk s3 H3 scope ce [ga]) []) ga gn t xs (xs.length + 1) s2.heap code i H' s' ∧ H' ga = none ∧ W i m H' := fun {s' H' σ'} hw hgs' I' nx => by
          obtain ⟨m', hm, w'⟩ := hNx H' nx
          have pin : ∀ b ∈ [ga, it], ∀ o, s6.heap.get? b = some o → s'.heap.get? b = some o ∧ H' b = none := fun b hb o e =>
            let z := I'.pin (b, o) (List.mem_append_right _ (List.mem_append_right _ (mem_pinsAt hb e)))
            ⟨z.1, z.2.1⟩
          have pa := pin ga (List.mem_cons_self ..)
          have pi := pin it (List.mem_cons_of_mem _ (List.mem_singleton.mpr rfl))
          have hl : (wipe σ (own.map (·.2))).length = σ'.length := by rw [← hw, wipe_length]
          refine ⟨m', hm, i + 1, H', go, (I'.unpinned (pins := [])).weak hl (fun j v e => ?_), ⟨⟨o1, nm, qn, (pa o1 ho1).1, hc1, hd1, hs1⟩, .inr ⟨it, gs, ne, hgs', hsu, ?_, fp_next fi (pi oi hoi).2, kap⟩⟩, (pa og hog).2, w'⟩
          · rw [← hw] at e
            exact (wipe_some e).1
          · obtain ⟨o2, h2, r2⟩ := id hit
            exact ⟨o2, (pi o2 h2).1, r2⟩
        refine asleepF hgs hsu (pg.run _ { s6 with gens := s6.gens.map frz } _ H5 x u _ (inv_gens I6p (bare_frz I6p.bare)) ru (step x H5 ⟨rfl, hx⟩)) fun _ s8 G8 hg8 ⟨σ8, H8, I8, hw8, q8⟩ b8 => ?_
        have I8 := inv_gensBack I8 b8
        refine asleepF hg8 hsu (pt.run _ { s8 with gens := s8.gens.map frz } σ8 H8 _ (inv_gens I8 (bare_frz I8.bare)) q8) fun b s9 G9 hg9 ⟨H9, I9, q9⟩ b9 => ?_
        have I9 := inv_gensBack I9 b9
        cases b with
        | false =>
          simp only [Bool.false_eq_true, if_false] at q9 ⊢
          exact done hw8 hg9 I9 q9
        | true =>
          simp only [if_true] at q9 ⊢
          refine asleepF hg9 hsu (pe.run _ { s9 with gens := s9.gens.map frz } σ8 H9 _ (inv_gens I9 (bare_frz I9.bare)) q9) fun z sA GA hgA ⟨yv, HA, IA, rA, acc, hDA, hzA, nx⟩ bA => ?_
          have IA := inv_gensBack IA bA
          refine asleepF (Q := fun _ s' => Inv (X.blk s3 H3 scope ce [ga]) ([] ++ pinsAt [ga, it] s6.heap) σ8 (upd HA D (.lst (acc ++ [yv]))) s') hgA hsu (app_ok (X := X.blk s3 H3 scope ce [ga]) (inv_gens IA (bare_frz IA.bare)) hDA hzA rA fun s' I' => I') fun _ sB GB hgB IB bB => ?_
          exact done hw8 hgB (inv_gensBack IB bB) nx
    exact codeAny_compStart_list loop (wpAny_pyIter_gen (hgen.keeps k4) loop)
  rw [es4, es3, ece, es3] at goal
  exact goal
end
end AG
namespace AG
open PySem PySem.Spec PyProof.Rows L2
/-! ### data that may be compared -/
structure Lay (n : Nat) (d : PyData) : Prop where
  can : d.canLay0 = true
  dep : d.depth ≤ n
structure Lays (n : Nat) (ds : List PyData) : Prop where
  can : PyData.canLayAll0 ds = true
  dep : PyData.depthAll ds ≤ n
theorem Lay.mono {n m : Nat} {d : PyData} (h : Lay n d) (l : n ≤ m) : Lay m d := ⟨h.can, Nat.le_trans h.dep l⟩
theorem Lays.nil {n : Nat} : Lays n [] := ⟨by simp only [PyData.canLayAll0], by simp only [PyData.depthAll]; exact Nat.zero_le _⟩
theorem Lays.cons {n : Nat} {d : PyData} {ds : List PyData} (h : Lay n d) (t : Lays n ds) : Lays n (d :: ds) := ⟨by simp only [PyData.canLayAll0, h.can, t.can]; rfl, by simp only [PyData.depthAll]; exact Nat.max_le.mpr ⟨h.dep, t.dep⟩⟩
theorem Lays.tup {n : Nat} {ds : List PyData} (h : Lays n ds) : Lay (n + 1) (.tuple ds) := ⟨by simp only [PyData.canLay0, h.can], by simp only [PyData.depth]; exact Nat.succ_le_succ h.dep⟩
theorem Lays.lst {n : Nat} {ds : List PyData} (h : Lays n ds) : Lay (n + 1) (.list ds) := ⟨by simp only [PyData.canLay0, h.can], by simp only [PyData.depth]; exact Nat.succ_le_succ h.dep⟩
theorem Lays.map {α : Type} {n : Nat} {f : α → PyData} : ∀ {l : List α}, (∀ x ∈ l, Lay n (f x)) → Lays n (l.map f)
  | [], _ => .nil
  | x :: r, h => .cons (h x (List.mem_cons_self ..)) (Lays.map fun y hy => h y (List.mem_cons_of_mem _ hy))
theorem Lay.shaped {n : Nat} {d : PyData} (h : Lay n d) (l : n ≤ 64 := by decide) : SeqAt.shaped d = true := Bool.and_eq_true_iff.mpr ⟨h.can, decide_eq_true (Nat.le_trans h.dep l)⟩
theorem Lay.refl {n : Nat} {d : PyData} (h : Lay n d) : PyData.eqv d d = true := SeqAt.eqv_refl d h.can
theorem Lay.str {n : Nat} {x : Str} (h : PyData.canLay0 (.str x) = true) : Lay n (.str x) := ⟨h, by simp only [PyData.depth]; exact Nat.zero_le _⟩
theorem Lay.int {n : Nat} {i : Int} : Lay n (.int i) := ⟨by simp only [PyData.canLay0], by simp only [PyData.depth]; exact Nat.zero_le _⟩
theorem NameOk.lay {n : Nat} {x : Str} (h : NameOk x) : Lay n (.str x) := .str (by
  simp only [PyData.canLay0, PyData.strOk]
  rw [← Array.all_toList, List.all_eq_true]
  intro c hc
  have := (List.all_eq_true (p := fun c => decide (c < 0x110000))).mp (show (abc.cps.toList.all fun c => decide (c < 0x110000)) = true by decide +kernel) c (h.of c hc)
  exact this)
theorem Fm.lay : ∀ (f : Fm), f.ok → Lay f.deep f.d
  | .at x, h => Lays.tup (n := 0) (.cons (.str (by decide +kernel)) (.cons h.lay .nil))
  | .no, _ => Lays.tup (n := 0) (.cons (.str (by decide +kernel)) .nil)
  | .bi o a b, h => Lays.tup (n := max a.deep b.deep) (.cons (.str (by cases o <;> decide +kernel)) (.cons ((a.lay h.1).mono (Nat.le_max_left _ _)) (.cons ((b.lay h.2).mono (Nat.le_max_right _ _)) .nil)))
theorem Row.lay {r : Row} (h : RowOk r) : Lay 4 (Row.d r) := Lays.tup (n := 3) (.cons h.nm.lay (.cons ((r.2.lay h.fm).mono h.dp) .nil))
theorem rows_lay {rs : List Row} (h : ∀ r ∈ rs, RowOk r) : Lay 5 (.tuple (rowsD rs)) := Lays.tup (Lays.map fun r hr => Row.lay (h r hr))
theorem Sc.lay {s : Sc} (h : s.ok) : Lay 2 s.d := by
  refine Lays.tup (n := 1) (.cons (.str (by rcases s.tag with e | e | e <;> rw [e] <;> decide +kernel)) (.cons ?_ .nil))
  cases s with
  | exg => exact Lays.tup (n := 0) (.cons (.str (by decide +kernel)) .nil)
  | exn => exact Lays.tup (n := 0) (.cons (.str (by decide +kernel)) (.cons .int .nil))
  | intro x => exact NameOk.lay h
  | recall x => exact NameOk.lay h
theorem Cm.lay {d : Cm} (h : d.ok) : Lay 4 d.chk := by
  cases d with
  | one s => exact (Sc.lay (s := s) h).mono (by decide)
  | att s => exact Lays.tup (n := 3) (.cons (.str (by decide +kernel)) (.cons (Lays.tup (n := 2) (.cons (Sc.lay (s := s) h) .nil)) .nil))
theorem cms_lay {cs : List Cm} (h : ∀ d ∈ cs, d.ok) : Lay 5 (.tuple (cs.map Cm.chk)) := Lays.tup (Lays.map fun r hr => Cm.lay (h r hr))
end AG
namespace AG
open PySem PySem.Spec PyProof.Rows L2
/-! ### sorted texts -/
def leS (a b : Str) : Prop := ¬ b.cps.toList < a.cps.toList
theorem leS_anti {a b : Str} (h : leS a b) (k : leS b a) : a = b := by
  have e : a.cps.toList = b.cps.toList := List.le_antisymm (List.not_lt.mp h) (List.not_lt.mp k)
  cases a
  cases b
  congr 1
  exact Array.toList_inj.mp e
theorem leS_trans {a b d : Str} (h : leS a b) (k : leS b d) : leS a d := List.not_lt.mpr (List.le_trans (List.not_lt.mp h) (List.not_lt.mp k))
theorem rising_pair : ∀ {p : Str} {l : List Str}, risingS p l = true → (p :: l).Pairwise leS
  | p, [], _ => List.pairwise_singleton ..
  | p, x :: r, h => by
    have h : (!ltCps x.cps.toList p.cps.toList && risingS x r) = true := h
    rw [Bool.and_eq_true, Bool.not_eq_true', ltCps_eq, decide_eq_false_iff_not] at h
    have t := rising_pair h.2
    refine List.pairwise_cons.mpr ⟨fun y hy => ?_, t⟩
    rcases List.mem_cons.mp hy with e | hy
    · rw [e]
      exact h.1
    · exact leS_trans h.1 ((List.pairwise_cons.mp t).1 y hy)
theorem sortedS_pair : ∀ {l : List Str}, sortedS l = true → l.Pairwise leS
  | [], _ => .nil
  | _ :: _, h => rising_pair h
open Classical in
/-- the sorted list of xs (xs itself if there were none) -/
noncomputable def srt (xs : List Str) : List Str := if h : ∃ ys : List Str, ys.Perm xs ∧ sortedS ys = true then h.choose else xs
theorem srt_eq {xs ys : List Str} (p : ys.Perm xs) (s : sortedS ys = true) : ys = srt xs := by
  have h : ∃ ys : List Str, ys.Perm xs ∧ sortedS ys = true := ⟨ys, p, s⟩
  unfold srt
  rw [dif_pos h]
  exact List.Perm.eq_of_pairwise (fun a b _ _ => leS_anti) (sortedS_pair s) (sortedS_pair h.choose_spec.2) (p.trans h.choose_spec.1.symm)
theorem srt_perm (xs : List Str) : (srt xs).Perm xs := by
  unfold srt
  split
  · rename_i h
    exact h.choose_spec.1
  · exact .refl _
theorem srt_len (xs : List Str) : (srt xs).length = xs.length := (srt_perm xs).length_eq
theorem srt_of_perm {xs ys : List Str} (p : xs.Perm ys) (h : ∃ zs : List Str, zs.Perm xs ∧ sortedS zs = true) : srt xs = srt ys := by
  obtain ⟨zs, a, b⟩ := h
  exact (srt_eq a b).symm.trans (srt_eq (a.trans p) b)
/-! ### each once -/
def add1 (acc : List Str) (x : Str) : List Str := if x ∈ acc then acc else acc ++ [x]
def uniq (xs : List Str) : List Str := xs.foldl add1 []
theorem mem_add1 {acc : List Str} {x y : Str} : y ∈ add1 acc x ↔ y ∈ acc ∨ y = x := by
  unfold add1
  split
  · rename_i h
    exact ⟨.inl, fun z => z.elim id fun e => e ▸ h⟩
  · rw [List.mem_append, List.mem_singleton]
theorem nodup_add1 {acc : List Str} {x : Str} (h : acc.Nodup) : (add1 acc x).Nodup := by
  unfold add1
  split
  · exact h
  · rename_i hn
    exact List.nodup_append.mpr ⟨h, List.nodup_cons.mpr ⟨List.not_mem_nil, .nil⟩, fun a ha b hb e => hn (List.mem_singleton.mp hb ▸ e ▸ ha)⟩
theorem len_add1 (acc : List Str) (x : Str) : (add1 acc x).length ≤ acc.length + 1 := by
  unfold add1
  split
  · exact Nat.le_succ _
  · rw [List.length_append]
    exact Nat.le_refl _
theorem mem_fold {y : Str} : ∀ {xs acc : List Str}, y ∈ xs.foldl add1 acc ↔ y ∈ acc ∨ y ∈ xs
  | [], acc => by simp
  | x :: r, acc => by
    rw [List.foldl_cons, mem_fold, mem_add1, List.mem_cons, or_assoc]
theorem nodup_fold : ∀ {xs acc : List Str}, acc.Nodup → (xs.foldl add1 acc).Nodup
  | [], _, h => h
  | x :: r, acc, h => nodup_fold (xs := r) (nodup_add1 h)
theorem len_fold : ∀ (xs acc : List Str), (xs.foldl add1 acc).length ≤ acc.length + xs.length
  | [], _ => Nat.le_refl _
  | x :: r, acc => by
    rw [List.foldl_cons]
    have := len_fold r (add1 acc x)
    have := len_add1 acc x
    rw [List.length_cons]
    omega
theorem uniq_take {xs : List Str} {i : Nat} {x : Str} (h : xs[i]? = some x) : uniq (xs.take (i + 1)) = add1 (uniq (xs.take i)) x := by
  unfold uniq
  rw [take_succ h, List.foldl_append]
  rfl
theorem mem_uniq {xs : List Str} {y : Str} : y ∈ uniq xs ↔ y ∈ xs := by
  unfold uniq
  rw [mem_fold]
  simp
/-! ### statements -/
def chain : List Fm → Fm → Fm
  | [], g => g
  | f :: r, g => .bi .th f (chain r g)
def states (rs : List Row) (g : Fm) : Fm := chain (rs.map Prod.snd) g
/-! ### what the shelf holds -/
structure Ent where
  name : Str
  rows : List Row
  goal : Fm
  cmds : List Cm
def Ent.rcl (e : Ent) : List Str := uniq (recs e.cmds)
structure EntOk (e : Ent) : Prop where
  nm : NameOk e.name
  ro : ∀ r ∈ e.rows, RowOk r
  rl : e.rows.length ≤ 8
  go : e.goal.ok
  gd : e.goal.deep ≤ 3
  co : ∀ d ∈ e.cmds, d.ok
  cl : e.cmds.length ≤ 8
abbrev names (es : List Ent) : List Str := es.map Ent.name
def has (es : List Ent) (x : Str) : Prop := x ∈ names es
instance (es : List Ent) (x : Str) : Decidable (has es x) := inferInstanceAs (Decidable (x ∈ names es))
def ent? (es : List Ent) (x : Str) : Option Ent := es.find? fun e => decide (e.name = x)
theorem ent_some {es : List Ent} {x : Str} : has es x → ∃ e, ent? es x = some e ∧ e ∈ es ∧ e.name = x := fun h => by
  obtain ⟨e, he, hx⟩ := List.mem_map.mp h
  cases f : ent? es x with
  | none => exact absurd hx (by simpa using List.find?_eq_none.mp f e he)
  | some e2 => exact ⟨e2, rfl, List.mem_of_find?_eq_some f, by simpa using List.find?_some f⟩
theorem ent_none {es : List Ent} {x : Str} (h : ¬ has es x) : ent? es x = none := List.find?_eq_none.mpr fun e he => by
  simpa using fun z => h (List.mem_map.mpr ⟨e, he, z⟩)
theorem ent_has {es : List Ent} {x : Str} {e : Ent} (h : ent? es x = some e) : has es x ∧ e ∈ es ∧ e.name = x := by
  have m := List.mem_of_find?_eq_some h
  have n : e.name = x := by simpa using List.find?_some h
  exact ⟨List.mem_map.mpr ⟨e, m, n⟩, m, n⟩
def rclOf (es : List Ent) (x : Str) : List Str := match ent? es x with
  | some e => e.rcl
  | none => []
/-- what is recalled is there -/
def Closed (es : List Ent) : Prop := ∀ e ∈ es, ∀ y ∈ recs e.cmds, has es y
structure Good (es : List Ent) : Prop where
  ok : ∀ e ∈ es, EntOk e
  nd : (names es).Nodup
  cl : Closed es
  le : es.length ≤ 4
/-! ### what an entry rests on -/
def step (es : List Ent) (acc : List Str × List Str) (x : Str) : List Str × List Str := if has es x ∧ x ∉ acc.1 then (acc.1 ++ [x], acc.2 ++ [x]) else acc
def go (es : List Ent) : Nat → List Str × List Str → List Str
  | 0, a => a.1
  | n + 1, a => match a.2.getLast? with
    | none => a.1
    | some x => go es n ((rclOf es x).foldl (step es) (a.1, a.2.dropLast))
noncomputable def rests (es : List Ent) (x : Str) : List Str := srt (go es (es.length + 1) ([], [x]))
/-- names that are there, each once -/
structure Fnd (es : List Ent) (f w : List Str) : Prop where
  nd : f.Nodup
  sub : ∀ x ∈ f, has es x
  wai : ∀ x ∈ w, has es x
theorem nodup_sub : ∀ {xs ys : List Str}, xs.Nodup → (∀ x ∈ xs, x ∈ ys) → xs.length ≤ ys.length
  | [], _, _, _ => Nat.zero_le _
  | x :: r, ys, h, s => by
    have hx := s x (List.mem_cons_self ..)
    have h := List.nodup_cons.mp h
    have := nodup_sub (xs := r) (ys := ys.erase x) h.2 fun y hy => (List.mem_erase_of_ne (fun e : y = x => h.1 (e ▸ hy))).mpr (s y (List.mem_cons_of_mem _ hy))
    rw [List.length_erase_of_mem hx] at this
    have := List.length_pos_of_mem hx
    rw [List.length_cons]
    omega
theorem Fnd.len {es : List Ent} {f w : List Str} (h : Fnd es f w) : f.length ≤ es.length := by
  have : f.length ≤ (names es).length := nodup_sub h.nd fun x hx => h.sub x hx
  rwa [List.length_map] at this
theorem Fnd.step {es : List Ent} {a : List Str × List Str} (h : Fnd es a.1 a.2) (x : Str) : Fnd es (step es a x).1 (step es a x).2 := by
  unfold AG.step
  split
  · rename_i c
    refine ⟨List.nodup_append.mpr ⟨h.nd, List.nodup_cons.mpr ⟨List.not_mem_nil, .nil⟩, fun p hp q hq e => c.2 (List.mem_singleton.mp hq ▸ e ▸ hp)⟩, fun y hy => ?_, fun y hy => ?_⟩
    · rcases List.mem_append.mp hy with hy | hy
      · exact h.sub y hy
      · rw [List.mem_singleton.mp hy]
        exact c.1
    · rcases List.mem_append.mp hy with hy | hy
      · exact h.wai y hy
      · rw [List.mem_singleton.mp hy]
        exact c.1
  · exact h
theorem step_meas {es : List Ent} {a : List Str × List Str} (x : Str) : (step es a x).2.length + a.1.length = a.2.length + (step es a x).1.length := by
  unfold AG.step
  split
  · simp only [List.length_append, List.length_singleton]
    omega
  · rfl
end AG
namespace AG
open PySem PySem.Spec PyProof.Rows L2
section
variable {P : Program} {w : World} {K : PySem.W.Frag} {mg : Str → Option Value} {base : Heap} {c : Cs}
/-! ### is_row -/
def spRow : Sp := fun vs H Q _ => ∃ (Mu : Mut1) (v : V) (r : Row), vs = [v, .int 10] ∧ Wl Mu H ∧ Dat Mu H v r.d ∧ RowOk r ∧ ∀ H', Same H H' → Q (.bl true) H'
theorem sc_is_row : FnScope ["value", "deep"] ["value", "deep"] (defScope s_is_row) := ⟨rfl, rfl, rfl, by decide +kernel, rfl, by decide +kernel, by decide +kernel⟩
theorem ok_is_row (T : Txt w K mg c) : Def P w K mg base CX0 "is_row" ["value", "deep"] 7 spRow := by
  refine T.d_is_row.def_ sc_is_row (fun vs H Q E ⟨_, _, _, e, _⟩ => by rw [e]; rfl) (fun _ _ _ _ _ _ us hl => match us, hl with | [_, _], _ => rfl) fun f cdv A outer s H vs Q E hr h => ?_
  obtain ⟨Mu, v, r, rfl, wl, dv, ok, q⟩ := h
  refine ⟨_, PSs.nox (pss_one (ps_ret (pe_and (isi .tuple T.n_isinstance (pa_cons (pv 0) (pa_cons (gty .tuple T.n_tuple bb_tuple) pa_nil))) (pe_and (pe_cmpR op_eqC (len1 T.n_len (pa_cons (pv 0) pa_nil)) pe_int (nomark _)) (pe_and (dcall (ok_is_name T) hr (by decide) pass0 (pa_cons (pe_ix ix_dat (pv 0) pe_int (fun _ _ => rfl)) pa_nil)) (pe_one (dcall (ok_is_form T 3) hr (by decide) pass0 (pa_cons (pe_ix ix_dat (pv 0) pe_int (fun _ _ => rfl)) (pa_cons (pv 1) (pa_cons pe_str pa_nil)))))))))), ?_⟩
  have dv : Dat Mu H v (.tuple [.str r.1, r.2.d]) := dv
  refine ⟨_, rfl, rfl, .tuple, dv.kd, _, rfl, iteT ⟨_, rfl, _, dv.lenT, rfl, fun _ => ⟨_, rfl, iteT ?_⟩, fun z => absurd rfl z⟩⟩
  refine ⟨_, rfl, Mu, _, _, 0, dv, rfl, rfl, fun z dz => ?_⟩
  obtain rfl := dz.asStr
  refine ⟨_, rfl, ok.nm, fun H1 s1 => ⟨_, rfl, iteT ?_⟩⟩
  have d1 := dv.same s1
  refine ⟨_, rfl, Mu, _, _, 1, d1, rfl, rfl, fun z dz => ?_⟩
  exact ⟨_, rfl, Mu, z, r.2, 10, rfl, wl.same s1, dz, ok.fm, ok.dp, by have := ok.dp; omega, fun H2 s2 => q _ (s1.trans s2)⟩
/-! ### chained -/
def spChained : Sp := fun vs H Q _ => ∃ (Mu : Mut1) (v u : V) (fs : List Fm) (g : Fm), vs = [v, u] ∧ Wl Mu H ∧ Dat Mu H v (.list (fs.map Fm.d)) ∧ Dat Mu H u g.d ∧ fs.length ≤ 10 ∧ ∀ q H', Same H H' → Dat Mu H' q (chain fs g).d → Q q H'
theorem sc_chained : FnScope ["formulas", "goal", "found", "formula"] ["formulas", "goal"] (defScope s_chained) := ⟨rfl, rfl, rfl, by decide +kernel, rfl, by decide +kernel, by decide +kernel⟩
theorem ok_chained (T : Txt w K mg c) : Def P w K mg base CX0 "chained" ["formulas", "goal"] 1 spChained := by
  refine T.d_chained.def_ sc_chained (fun vs H Q E ⟨_, _, _, _, _, e, _⟩ => by rw [e]; rfl) (fun _ _ _ _ _ _ us hl => match us, hl with | [_, _], _ => rfl) fun f cdv A outer s H vs Q E hr h => ?_
  obtain ⟨Mu, v, u, fs, g, rfl, wl, dv, du, hl, q⟩ := h
  refine ⟨_, PSs.nox (pss_cons (ps_set (i := 2) sc_chained.nd rfl (Or.inl rfl) (pv 1))
      (pss_cons (ps_for PassesOwn.never rfl (pi_list (pe_revL (pv 0))) (pg_name (i := 3) sc_chained.nd rfl (Or.inl rfl)) (pss_one (ps_set (i := 2) sc_chained.nd rfl (Or.inl rfl) (pe_tup (pa_cons pe_str (pa_cons (pv 3) (pa_cons (pv 2) pa_nil)))))))
      (pss_one (ps_ret (pv 2))))), ?_⟩
  obtain ⟨a0, xs0, rfl, m0, h0, r0⟩ := dv.asLst
  have l0 : xs0.length = fs.length := r0.length.trans (List.length_map ..)
  refine ⟨_, rfl, _, rfl, a0, xs0, rfl, SqL.of h0, fun p np => ⟨p, rfl, ⟨_, SqL.of upd_same⟩, ?_⟩⟩
  have s1 : Same H (upd H p (.lst xs0.reverse)) := same_new np
  refine for_it walk_list (fun i σ H2 => Same (upd H p (.lst xs0.reverse)) H2 ∧ ∃ x3 y, σ = [some (V.ref a0), some u, some y, x3] ∧ Dat Mu H2 y (chain (fs.drop (fs.length - i)) g).d) ⟨.refl _, _, u, rfl, ?_⟩ (fun i σ H2 _ ⟨s2, _⟩ => SqL.of (s2 _ _ upd_same)) ?_ ?_
  · rw [Nat.sub_zero, List.drop_length]
    exact du.same s1
  · rintro i x0 σ H2 H2' hi ⟨s2, x3, y, rfl, dy⟩ ⟨rfl, hx⟩
    rw [List.length_reverse] at hi
    rw [List.getElem?_reverse hi] at hx
    obtain ⟨d1, hd1, dx⟩ := r0.get hx
    obtain ⟨k, hk, rfl⟩ := map_at hd1
    have dx2 := dx.same (s1.trans s2)
    refine ⟨_, rfl, _, rfl, (by show 3 ≤ sizeLine; decide), fun q1 nq => ⟨s2.trans (same_new nq), _, _, rfl, ?_⟩⟩
    have e : fs.drop (fs.length - (i + 1)) = k :: fs.drop (fs.length - i) := by
      have lt : fs.length - (i + 1) < fs.length := by omega
      rw [List.drop_eq_getElem_cons lt]
      have e1 : fs.length - (i + 1) = xs0.length - 1 - i := by omega
      have e2 : fs.length - (i + 1) + 1 = fs.length - i := by omega
      rw [e2]
      congr 1
      have := (List.getElem?_eq_some_iff.mp hk).2
      rw [← this]
      congr 1
    rw [e]
    exact .tup ((wl.same (s1.trans s2)).new nq) upd_same (.cons (.str _) (.cons (dx2.same (same_new nq)) (.cons (dy.same (same_new nq)) .nil)))
  · rintro σ H2 ⟨s2, x3, y, rfl, dy⟩
    rw [List.length_reverse, l0, Nat.sub_self, List.drop_zero] at dy
    exact ⟨_, rfl, q y H2 (s1.trans s2) dy⟩
/-! ### Context -/
def spCtxInit (c : Cs) : Sp := fun vs H Q _ => ∃ (Mu : Mut1) (x dx : Addr) (v : V) (rs : List Row), vs = [.ref x, v, .int 10] ∧ Wl Mu H ∧ Mu x ∧ H x = some (.ins c.Context dx []) ∧ Dat Mu H v (.list (rowsD rs)) ∧ (∀ r ∈ rs, RowOk r) ∧ rs.length ≤ 8 ∧
  ∀ H' t, Kp (fun b => b = x) H H' → H' x = some (.ins c.Context dx [("held", t)]) → Dat Mu H' t (.tuple (rowsD rs)) → Q .non H'
theorem sc_Context___init__ : FnScope ["self", "rows", "deep", "at", "row"] ["self", "rows", "deep"] (defScope s_Context___init__) := ⟨rfl, rfl, rfl, by decide +kernel, rfl, by decide +kernel, by decide +kernel⟩
theorem ok_Context (T : Txt w K mg c) : KDef P w K mg base CX0 "Context" c.Context ["self", "rows", "deep"] [.int 10] 8 (spCtxInit c) := by
  obtain ⟨aD, TD⟩ := T.mk_Context
  obtain ⟨f, fd, M, F⟩ := TD.ex
  obtain ⟨ds, vd, b⟩ := F.binds (ps := ["self", "rows", "deep"]) 2 1 (by simp) rfl (fun T D doc pm an cdv ct us its ks h1 h2 h3 => match us, its, ks, h1, h2, h3 with | [_, _], [_], [_], _, _, _ => ⟨_, rfl, _, _, _, _, _, _, rfl, rfl, rfl⟩) (by simp)
  refine ⟨T.c_Context.at_, f, fd, ds, M, F.ok sc_Context___init__ (fun vs H Q E ⟨_, _, _, _, _, e, _⟩ => by rw [e]; rfl) (fun cdv A outer s H vs Q E hr h => ?_), b, vd⟩
  obtain ⟨Mu, x, dx, v, rs, rfl, wl, mx, hx, dv, ok, hl, q⟩ := h
  refine ⟨_, PSs.nox (pss_cons (ps_for PassesOwn.never rfl (pi_enum (by rfl) T.n_enumerate (pa_cons (pv 1) pa_nil)) (pg_tup rfl (pgs_cons (pg_name (i := 3) sc_Context___init__.nd rfl (Or.inl rfl)) (pgs_cons (pg_name (i := 4) sc_Context___init__.nd rfl (Or.inl rfl)) pgs_nil))) (pss_one (ps_if (pt_not (pt_val (dcall (ok_is_row T) hr (by decide) pass0 (pa_cons (pv 4) (pa_cons (pv 2) pa_nil))))) (pss_one ps_never) pss_nil)))
      (pss_cons (ps_if (pt_cmpR op_gt (len1 T.n_len (pa_cons (pv 1) pa_nil)) (gcst T.k_MOST_ROWS) (nomark _)) (pss_one ps_never) pss_nil)
      (pss_one (ps_fld (pv 0) (pe_callTy cTupOf (by rfl) T.n_tuple bb_tuple (pa_cons (pv 1) pa_nil)) rfl)))), ?_⟩
  obtain ⟨a0, xs0, rfl, m0, h0, r0⟩ := dv.asLst
  have l0 : xs0.length = rs.length := r0.length.trans (List.length_map ..)
  refine ⟨_, rfl, a0, xs0, rfl, SqL.of h0, ?_⟩
  refine for_it walk_enum (fun i σ H2 => Same H H2 ∧ ∃ x3 x4, σ = [some (V.ref x), some (V.ref a0), some (V.int 10), x3, x4]) ⟨.refl _, _, _, rfl⟩ (fun i σ H2 _ ⟨s2, _⟩ => SqL.of (s2 _ _ h0)) ?_ ?_
  · rintro i x0 σ H2 H2' hi ⟨s2, x3, x4, rfl⟩ ⟨T1, y1, y, rfl, hT, rfl, hy1, hy⟩
    cases hy1
    refine ⟨T1, _, rfl, SqT.of upd_same, rfl, _, _, rfl, _, _, rfl, rfl, ?_⟩
    obtain ⟨d1, hd1, dy⟩ := r0.get hy
    obtain ⟨r, hr1, rfl⟩ := map_at hd1
    have s3 := s2.trans (same_new (o := .tup [V.int i, y]) hT)
    exact ⟨_, rfl, _, rfl, Mu, y, r, rfl, wl.same s3, dy.same s3, ok r (List.mem_of_getElem? hr1), fun H4 s4 => ⟨_, rfl, iteF ⟨s3.trans s4, _, _, rfl⟩⟩⟩
  · rintro σ H2 ⟨s2, x3, x4, rfl⟩
    have d2 := dv.same s2
    refine ⟨_, rfl, _, d2.lenL, _, _, rfl, rfl, _, rfl, ?_⟩
    rw [decide_eq_false (by
      show ¬ ((40 : Int) < (rowsD rs).length)
      unfold rowsD
      rw [List.length_map]
      omega)]
    refine iteF ⟨_, rfl, Mu, xs0, _, a0, wl.same s2, rfl, SqL.of (s2 _ _ h0), r0.same s2, fun p H3 s3 d3 n3 => ?_⟩
    have h3 := s3 _ _ (s2 _ _ hx)
    refine ⟨_, rfl, x, _, dx, _, rfl, h3, T.c_Context.cl, T.f_Context_held, (by decide), ?_⟩
    refine q _ _ (((Kp.ofSame (s2.trans s3)).trans (kp_upd rfl))) upd_same ?_
    exact d3.keep (kp_upd mx)
theorem ctx_made {Mu : Mut1} {H H' : Hp} {x dx : Addr} {t : V} {rs : List Row} (wl : Wl Mu H) (nx : H x = none) (nd : H dx = none) (ne : dx ≠ x) (k : Kp (fun b => b = x) (upd (upd H dx (.own x)) x (.ins c.Context dx [])) H') (h : H' x = some (.ins c.Context dx [("held", t)])) (d : Dat (wi Mu x) H' t (.tuple (rowsD rs))) :
    Same H H' ∧ Ctx c Mu H' (.ref x) rs := by
  have s0 := same_ins (C := c.Context) nx nd ne
  refine ⟨fun b o e => k.at_ b o (ne_of_none e nx) (s0 b o e), t, ⟨x, dx, rfl, wl.new nx, h⟩, d.less fun b m => .inl m⟩
/-- rows() -/
def spRows (c : Cs) : Sp := fun vs H Q _ => ∃ (Mu : Mut1) (v : V) (rs : List Row), vs = [v] ∧ Wl Mu H ∧ Ctx c Mu H v rs ∧ ∀ p H', Same H H' → Dat Mu H' (.ref p) (.list (rowsD rs)) → H p = none → Q (.ref p) H'
theorem sc_Context_rows : FnScope ["self"] ["self"] (defScope s_Context_rows) := ⟨rfl, rfl, rfl, by decide +kernel, rfl, by decide +kernel, by decide +kernel⟩
theorem ok_Context_rows (T : Txt w K mg c) : MDef P w K mg base CX0 c.Context "rows" ["self"] 1 (spRows c) := by
  refine T.m_Context_rows.def_ T.c_Context.cl sc_Context_rows (fun vs H Q E ⟨_, _, _, e, _⟩ => by rw [e]; rfl) (fun _ _ _ _ _ _ us hl => match us, hl with | [_], _ => rfl) fun f cdv A outer s H vs Q E hr h => ?_
  obtain ⟨Mu, v, rs, rfl, wl, ⟨t, ⟨a, dx, rfl, ma, ha⟩, dt⟩, q⟩ := h
  refine ⟨_, PSs.nox (pss_one (ps_ret (pe_callTy cListOf (by rfl) T.n_list bb_list (pa_cons (pe_fld (pv 0) rfl) pa_nil)))), ?_⟩
  exact ⟨_, rfl, a, _, dx, _, _, rfl, ha, T.c_Context.cl, T.f_Context_held, rfl, Mu, _, wl, dt, .inr rfl, fun p H' s' d n => q p H' s' d n⟩
/-! ### statement -/
def spStatement (c : Cs) : Sp := fun vs H Q _ => ∃ (Mu : Mut1) (v u : V) (rs : List Row) (g : Fm), vs = [v, u] ∧ Wl Mu H ∧ Ctx c Mu H v rs ∧ Dat Mu H u g.d ∧ rs.length ≤ 8 ∧ ∀ q H', Same H H' → Dat Mu H' q (states rs g).d → Q q H'
theorem sc_statement : FnScope ["context", "goal", "name", "formula"] ["context", "goal"] (defScope s_statement) := ⟨rfl, rfl, rfl, by decide +kernel, rfl, by decide +kernel, by decide +kernel⟩
theorem Fn_statement (T : Txt w K mg c) {f : Addr} {fd : FuncData} (F : FnP K "statement" "statement" s_statement f fd) : FnOk P w K mg base CX0 2 f fd ["context", "goal"] (spStatement c) := by
  refine F.ok sc_statement (fun vs H Q E ⟨_, _, _, _, _, e, _⟩ => by rw [e]; rfl) fun cdv A outer s H vs Q E hr h => ?_
  obtain ⟨Mu, v, u, rs, g, rfl, wl, cv, du, hl, q⟩ := h
  refine ⟨_, PSs.nox (pss_one (ps_ret (dcall (ok_chained T) hr (by decide) pass0 (pa_cons (pe_lc (own := [("name", 2), ("formula", 3)]) (g := gTup K 2 (gCons (gName 2) (gCons (gName 3) gNil))) rfl sc_statement.nd (pi_list (mcall0 (ok_Context_rows T) hr (by decide) pass0 (pv 0))) (blkOk_by (N := ["context", "goal", "name", "formula"]) (sc := (defScope s_statement)) (by decide +kernel)) (fun _ _ _ _ _ => (pg_tup rfl (pgs_cons (pg_name (i := 2) sc_statement.nd rfl (Or.inl rfl)) (pgs_cons (pg_name (i := 3) sc_statement.nd rfl (Or.inl rfl)) pgs_nil)))) (fun _ _ _ _ _ => pts_nil) (fun _ _ _ _ _ => (pv 3))) (pa_cons (pv 1) pa_nil))))), ?_⟩
  have cv0 := cv
  obtain ⟨t, ⟨a, dx, rfl, ma, ha⟩, dt⟩ := cv
  refine ⟨_, rfl, a, dx, _, rfl, ha, rfl, Mu, _, rs, rfl, wl, cv0, fun p H1 s1 d1 n1 => ?_⟩
  obtain ⟨_, xs1, e1, m1, h1, r1⟩ := d1.asLst
  cases e1
  have l1 : xs1.length = rs.length := r1.length.trans (List.length_map ..)
  refine ⟨p, rfl, ⟨_, SqL.of h1⟩, fun D hD => ?_⟩
  refine lc_dat walk_list (Mc := fun _ => False) (Mu := Mu) (fun _ z => z.elim) (wl.same s1) hD (by omega) (fun i => (rs.map fun r => r.2.d).take i) rfl (fun _ _ => True) trivial (fun _ _ _ _ => trivial) (fun i H0 k0 _ => SqL.of (k0.at_ _ _ ?_ h1)) ?_ ?_
  · exact fun z => z.elim (fun z => z) (ne_of_none h1 hD)
  · rintro i v0 H0 H0' add skip hi k0 wl0 hD0 - ⟨rfl, hv⟩ ha'
    refine fun _ => ?_
    obtain ⟨d2, hd2, dd2⟩ := r1.get hv
    obtain ⟨r, hr2, rfl⟩ := map_at hd2
    have dk := (dd2.wiNew hD).keep (k0.wide fun b m => .inr (m.elim (fun z => z.elim) id))
    obtain ⟨aT, xT, rfl, mT, hT, rT⟩ := Dat.asTup (ds := [.str r.1, r.2.d]) dk
    have lT : xT.length = 2 := rT.length
    match xT, rT, lT with
    | [x1, x2], .cons e1 (.cons e2 _), _ =>
      refine ⟨aT, _, rfl, SqT.of hT, rfl, _, _, rfl, _, _, rfl, rfl, rfl, ?_⟩
      exact ⟨x2, rfl, ha' x2 _ _ (.refl _) rfl e2 (take_succ (by rw [List.getElem?_map, hr2]; rfl)) trivial⟩
  · intro H0 xs k0 hx r _ mD
    have eq : (rs.map fun r => r.2.d).take xs1.length = (rs.map Prod.snd).map Fm.d := by
      rw [List.take_of_length_le (by rw [List.length_map]; omega), List.map_map]
      rfl
    rw [eq] at r
    have sk : Same H1 H0 := k0.same fun _ z => z
    refine ⟨_, rfl, Mu, .ref D, u, rs.map Prod.snd, g, rfl, (wl.same s1).same sk, .lst mD hx r, (du.same s1).same sk, by rw [List.length_map]; omega, fun q1 H2 s2 d2 => q q1 H2 ((s1.trans sk).trans s2) d2⟩
theorem ok_statement_terms (T : Txt w K mg c) : Def P w K mg base CX0 "statement_terms" ["context", "goal"] 2 (spStatement c) := by
  obtain ⟨f, fd, hm, F⟩ := T.d_statement_terms
  exact ⟨f, fd, hm, F.kp, Fn_statement T F, F.bindsN (fun _ _ _ _ _ _ us hl => match us, hl with | [_, _], _ => rfl)⟩
end
end AG
namespace AG
open PySem PySem.Spec PyProof.Rows L2
/-! ### own __len__, __repr__, __contains__, __eq__ -/
section
variable {X : Cx} {k j : Nat} {ps : List Str} {sp : Sp} {C : Addr} {m : Str}
theorem runAt {A : Around} {pins : List (Addr × Obj)} {σ : L2.St} {H : Hp} {s : Shared} {f : Addr} {fd : FuncData} {Q : VK} {us : List Value} {vs : List V} {E : Value → Shared → Prop} (F : FnOk X.prog X.w X.K X.mg X.base CX0 k f fd ps sp) (b : Binds X.K fd ps []) (hr : Room k A) (hA : A.frames = X.A.frames) (I : Inv X pins σ H s) (r : Vals vs us) (h : sp vs H Q E0) :
    wpAny (model X.prog X.w) A (call (.ref f) us) (EP X pins σ Q) E s := by
  have e0 : Env0 X.prog X.w X.K X.mg X.base A X.stack s H := by
    have e := I.env0
    exact ⟨by rw [hA]; exact e.frames, e.mod, e.bs, e.bsz, e.funs, e.frf, e.hok, e.bare⟩
  have hl : us.length = ps.length := by rw [← r.length]; exact F.len _ _ _ _ h
  refine wpAny_call (codeAny_mono (F.run A X.stack s H ⟨us, []⟩ us vs Q E0 hr e0 (by simpa using b s us I.kIn (by simpa using hl)) r h) fun r s' hq => ?_)
  cases r with
  | error e => exact hq.elim
  | ok fl =>
    cases fl with
    | ret u => exact I.after hq
    | next => exact hq.elim
    | brk => exact hq.elim
    | cont => exact hq.elim
def rOwn1 (C : Addr) (sp : Sp) (G : V → Prop) : List V → Hp → VK → Prop := fun xs H Q => ∃ a dx fs, xs = [.ref a] ∧ H a = some (.ins C dx fs) ∧ sp [.ref a] H (fun v H' => G v ∧ Q v H') E0
theorem own_len (G : MDef X.prog X.w X.K X.mg X.base CX0 C "__len__" ps k sp) (hr : Room j X.A) (hk : k + 1 ≤ j) : CallR X (.builtin "len") (rOwn1 C sp fun v => ∃ n : Nat, n < 2 ^ 62 ∧ v = .int (n : Int)) := by
  intro pins s σ H xs us Q I r h
  obtain ⟨a, dx, fs, rfl, ha, h⟩ := h
  obtain ⟨u, rfl, ru⟩ := vals1 r
  cases ru
  obtain ⟨f, fd, hm, F, b⟩ := G.ex
  obtain ⟨mA, O, _⟩ := ins_get I.hok ha
  obtain ⟨od, J, _⟩ := O.look
  obtain ⟨mm, hF⟩ := I.fr
  refine PySem.W.len_K hF I.ok.mod.kin J hm.at_ hm.fn (wpAny_mono (runAt (vs := [.ref a]) (us := [.ref a]) F b (hr.mono hk).in1 rfl I (.cons rfl .nil) h) (fun u s1 ⟨v, H1, I1, rv, ⟨n, hn, e⟩, q⟩ => ?_) fun _ _ z => z)
  subst e
  obtain ⟨t, rfl⟩ := rv
  exact ⟨by constructor <;> omega, .int (n : Int), H1, I1.tok _, ⟨_, rfl⟩, q⟩
theorem own_repr (G : MDef X.prog X.w X.K X.mg X.base CX0 C "__repr__" ps k sp) (hr : Room j X.A) (hk : k + 1 ≤ j) : CallR X (.builtin "repr") (rOwn1 C sp fun v => ∃ x : Str, v = .str x) := by
  intro pins s σ H xs us Q I r h
  obtain ⟨a, dx, fs, rfl, ha, h⟩ := h
  obtain ⟨u, rfl, ru⟩ := vals1 r
  cases ru
  obtain ⟨f, fd, hm, F, b⟩ := G.ex
  obtain ⟨mA, O, _⟩ := ins_get I.hok ha
  obtain ⟨od, J, _⟩ := O.look
  obtain ⟨mm, hF⟩ := I.fr
  refine PySem.W.repr_K (hr.mono hk).in1.units0 hF I.ok.mod.kin J hm.at_ hm.fn (wpAny_mono (runAt (vs := [.ref a]) (us := [.ref a]) F b (hr.mono hk).in1 rfl I (.cons rfl .nil) h) (fun u s1 ⟨v, H1, I1, rv, ⟨x, e⟩, q⟩ => ?_) fun _ _ z => z)
  subst e
  obtain ⟨t, rfl⟩ := rv
  exact ⟨.str x, H1, I1, ⟨_, rfl⟩, q⟩
def rOwnIn (C : Addr) (sp : Sp) : R2 := fun x y H Q => ∃ a dx fs, y = .ref a ∧ H a = some (.ins C dx fs) ∧ sp [.ref a, x] H (fun v H' => (∃ b, v = .bl b) ∧ Q v H') E0
theorem own_in (G : MDef X.prog X.w X.K X.mg X.base CX0 C "__contains__" ps k sp) (hr : Room j X.A) (hk : k ≤ j) : OpR X (compareOp .In) (rOwnIn C sp) := by
  intro pins s σ H x y v u Q I rx ry h
  obtain ⟨a, dx, fs, rfl, ha, h⟩ := h
  cases ry
  obtain ⟨f, fd, hm, F, b⟩ := G.ex
  obtain ⟨mA, O, _⟩ := ins_get I.hok ha
  obtain ⟨od, J, _⟩ := O.look
  obtain ⟨mm, hF⟩ := I.fr
  refine PySem.W.in_K hF I.ok.mod.kin J hm.at_ hm.fn (wpAny_mono (runAt (vs := [.ref a, x]) (us := [.ref a, v]) F b (hr.mono hk) rfl I (.cons rfl (.cons rx .nil)) h) (fun u s1 ⟨v0, H1, I1, rv, ⟨b, e⟩, q⟩ => ?_) fun _ _ z => z)
  subst e
  cases rv
  exact wpAny_of_eq rfl ⟨.bl b, H1, I1, rfl, q⟩
def rOwnEq (C : Addr) (sp : Sp) : R2 := fun x y H Q => ∃ a b dx dy fs gs, x = .ref a ∧ y = .ref b ∧ H a = some (.ins C dx fs) ∧ H b = some (.ins C dy gs) ∧ sp [.ref a, .ref b] H (fun v H' => (∃ b, v = .bl b) ∧ Q v H') E0
theorem own_eq (G : MDef X.prog X.w X.K X.mg X.base CX0 C "__eq__" ps k sp) (hr : Room j X.A) (hk : k ≤ j) : OpR X (compareOp .Eq) (rOwnEq C sp) := by
  intro pins s σ H x y v u Q I rx ry h
  obtain ⟨a, a', dx, dy, fs, gs, rfl, rfl, ha, ha', h⟩ := h
  cases rx
  cases ry
  obtain ⟨f, fd, hm, F, b⟩ := G.ex
  obtain ⟨mA, O, _⟩ := ins_get I.hok ha
  obtain ⟨od, J, _⟩ := O.look
  obtain ⟨mB, O', _⟩ := ins_get I.hok ha'
  obtain ⟨od', J', _⟩ := O'.look
  obtain ⟨mm, hF⟩ := I.fr
  refine PySem.W.cmp_K (op := .Eq) (tb := .ref C) hr.units0 hF I.ok.mod.kin J J'.type (by simp [PySem.W.notFirst]) hm.at_ hm.fn (wpAny_mono (runAt (vs := [.ref a, .ref a']) (us := [.ref a, .ref a']) F b (hr.mono hk) rfl I (.cons rfl (.cons rfl .nil)) h) (fun u s1 ⟨v, H1, I1, rv, ⟨b, e⟩, q⟩ => ?_) fun _ _ z => z)
  subst e
  cases rv
  exact ⟨.bl b, H1, I1, rfl, q⟩
end
end AG
namespace AG
open PySem PySem.Spec PyProof.Rows L2
section
variable {P : Program} {w : World} {K : PySem.W.Frag} {mg : Str → Option Value} {base : Heap} {c : Cs}
/-! ### isinstance of own classes -/
def rIsC (C : Addr) : List V → Hp → VK → Prop := fun vs H Q => ∃ a dx fs, vs = [.ref a, .ref C] ∧ H a = some (.ins C dx fs) ∧ Q (.bl true) H
theorem cIsC {X : Cx} {x : Str} {C : Addr} (T : Own X.K X.mg x C) : CallR X (.builtin "isinstance") (rIsC C) := callR_imp call_isi fun xs H Q q => by
  obtain ⟨a, dx, fs, rfl, ha, q⟩ := q
  exact ⟨.ref a, .ref C, .ref C, .ref C, true, rfl, .own C, .base (.ins ha T.cl T.kc T.kg T.kt T.mro), T.me, q⟩
theorem gcls {X : Cx} {x : Str} {C : Addr} {pos : Pos} (T : Own X.K X.mg x C) (hg : Gl X x := by rfl) (hd : (x == ("__debug__" : Str)) = false := by decide +kernel) : PE X (.Name x pos) (tC (.ref C)) := pe_glob hg T.at_ rfl hd
theorem isiC {X : Cx} {x : Str} {C : Addr} {a : Expr} {es : List Expr} {t : TA} {p pos : Pos} (T : Own X.K X.mg x C) (h : X.mg "isinstance" = none) (ha : PA X (a :: es) t) (hg : Gl X "isinstance" := by rfl) (he : starEach (a :: es) X.env = (false, eval a X.env) :: starEach es X.env := by rfl) (hpl : (backTo pos (starEach es X.env)).any (·.1) = false := by rfl) :
    PE X (.Call (.Name "isinstance" p) (a :: es) [] pos) (tCB (rIsC C) t) := pe_callB (cIsC T) hg h bb_isi ha (he := he) (hpl := hpl)
/-! ### Context: len, == -/
def spCtxLen (c : Cs) : Sp := fun vs H Q _ => ∃ (Mu : Mut1) (v : V) (rs : List Row), vs = [v] ∧ Ctx c Mu H v rs ∧ Q (.int (rs.length : Nat)) H
theorem sc_Context___len__ : FnScope ["self"] ["self"] (defScope s_Context___len__) := ⟨rfl, rfl, rfl, by decide +kernel, rfl, by decide +kernel, by decide +kernel⟩
theorem ok_Context___len__ (T : Txt w K mg c) : MDef P w K mg base CX0 c.Context "__len__" ["self"] 1 (spCtxLen c) := by
  refine T.m_Context___len__.def_ T.c_Context.cl sc_Context___len__ (fun vs H Q E ⟨_, _, _, e, _⟩ => by rw [e]; rfl) (fun _ _ _ _ _ _ us hl => match us, hl with | [_], _ => rfl) fun f cdv A outer s H vs Q E hr h => ?_
  obtain ⟨Mu, v, rs, rfl, ⟨t, ⟨a, dx, rfl, ma, ha⟩, dt⟩, q⟩ := h
  refine ⟨_, PSs.nox (pss_one (ps_ret (len1 T.n_len (pa_cons (pe_fld (pv 0) rfl) pa_nil)))), ?_⟩
  have e : (rowsD rs).length = rs.length := List.length_map ..
  refine ⟨_, rfl, a, _, dx, _, _, rfl, ha, T.c_Context.cl, T.f_Context_held, rfl, _, dt.lenT, ?_⟩
  rw [e]
  exact q
def spCtxEq (c : Cs) : Sp := fun vs H Q _ => ∃ (Mu Mv : Mut1) (v u : V) (rs : List Row), vs = [v, u] ∧ Ctx c Mu H v rs ∧ Ctx c Mv H u rs ∧ (∀ r ∈ rs, RowOk r) ∧ Q (.bl true) H
theorem sc_Context___eq__ : FnScope ["self", "other"] ["self", "other"] (defScope s_Context___eq__) := ⟨rfl, rfl, rfl, by decide +kernel, rfl, by decide +kernel, by decide +kernel⟩
theorem ok_Context___eq__ (T : Txt w K mg c) : MDef P w K mg base CX0 c.Context "__eq__" ["self", "other"] 1 (spCtxEq c) := by
  refine T.m_Context___eq__.def_ T.c_Context.cl sc_Context___eq__ (fun vs H Q E ⟨_, _, _, _, _, e, _⟩ => by rw [e]; rfl) (fun _ _ _ _ _ _ us hl => match us, hl with | [_, _], _ => rfl) fun f cdv A outer s H vs Q E hr h => ?_
  obtain ⟨Mu, Mv, v, u, rs, rfl, ⟨t, ⟨a, dx, rfl, ma, ha⟩, dt⟩, ⟨t', ⟨a', dx', rfl, ma', ha'⟩, dt'⟩, ok, q⟩ := h
  refine ⟨_, PSs.nox (pss_one (ps_ret (pe_and (isiC T.c_Context T.n_isinstance (pa_cons (pv 1) (pa_cons (gcls T.c_Context) pa_nil))) (pe_one (pe_cmpR (op_eqD hr.units) (pe_fld (pv 0) rfl) (pe_fld (pv 1) rfl) (nomark _)))))), ?_⟩
  have ly := rows_lay ok
  refine ⟨_, rfl, a', dx', _, rfl, ha', _, rfl, iteT ⟨_, rfl, a, _, dx, _, _, rfl, ha, T.c_Context.cl, T.f_Context_held, rfl, _, rfl, a', _, dx', _, _, rfl, ha', T.c_Context.cl, T.f_Context_held, rfl, _, _, dt.dp, dt'.dp, ly.shaped, ly.shaped, ?_⟩⟩
  rw [ly.refl]
  exact q
/-! ### Script -/
def spScrInit (c : Cs) : Sp := fun vs H Q _ => ∃ (Mu : Mut1) (x dx : Addr) (v : V) (cs : List Cm), vs = [.ref x, v] ∧ Wl Mu H ∧ Mu x ∧ H x = some (.ins c.Script dx []) ∧ Dat Mu H v (.list (cs.map Cm.law)) ∧ (∀ d ∈ cs, d.ok) ∧ cs.length ≤ 8 ∧
  ∀ H' t u, Kp (fun b => b = x) H H' → H' x = some (.ins c.Script dx [("held", t), ("whole", u)]) → Dat Mu H' t (.tuple (cs.map Cm.chk)) → Dat Mu H' u (.tuple (pairsC [] 0 cs)) → Q .non H'
theorem sc_Script___init__ : FnScope ["self", "commands"] ["self", "commands"] (defScope s_Script___init__) := ⟨rfl, rfl, rfl, by decide +kernel, rfl, by decide +kernel, by decide +kernel⟩
theorem Cm.lv_le (d : Cm) : d.lv ≤ 2 := by
  cases d
  · exact Nat.le_succ 1
  · exact Nat.le_refl 2
theorem ok_Script (T : Txt w K mg c) : KDef P w K mg base CX0 "Script" c.Script ["self", "commands"] [] 8 (spScrInit c) := by
  obtain ⟨aD, TD⟩ := T.mk_Script
  obtain ⟨f, fd, M, F⟩ := TD.ex
  obtain ⟨ds, vd, b⟩ := F.binds1 (ps := ["self", "commands"]) 2 1 (by simp) rfl (fun T kV doc pm an cdv ct us its h1 h2 => match us, its, h1, h2 with | [_, _], [_], _, _ => ⟨_, rfl, rfl⟩)
  refine ⟨T.c_Script.at_, f, fd, ds, M, F.ok sc_Script___init__ (fun vs H Q E ⟨_, _, _, _, _, e, _⟩ => by rw [e]; rfl) (fun cdv A outer s H vs Q E hr h => ?_), b, vd⟩
  obtain ⟨Mu, x, dx, v, cs, rfl, wl, mx, hx, dv, ok, hl, q⟩ := h
  refine ⟨_, PSs.nox (pss_cons (ps_fld (pv 0) (dcall (ok_checked T 2) hr (by decide) pass0 (pa_cons (pv 1) (pa_cons (pe_tup pa_nil) pa_nil))) rfl)
      (pss_cons (ps_fld (pv 0) (pe_callTy cTupOf (by rfl) T.n_tuple bb_tuple (pa_cons (dcall (ok_pairs_in T 2) hr (by decide) pass0 (pa_cons (pe_fld (pv 0) rfl) (pa_cons (pe_tup pa_nil) pa_nil))) pa_nil)) rfl)
      (pss_one (ps_if (pt_cmpR op_gt (len1 T.n_len (pa_cons (pe_fld (pv 0) rfl) pa_nil)) (gcst T.k_MOST_COMMANDS) (nomark _)) (pss_one ps_never) pss_nil)))), ?_⟩
  refine ⟨_, rfl, Nat.zero_le _, fun p np => ?_⟩
  have s1 : Same H (upd H p (.tup [])) := same_new np
  have dp : Dat Mu (upd H p (.tup [])) (.ref p) (pathD []) := .tup (wl.new np) upd_same .nil
  refine ⟨Mu, v, .ref p, cs, [], rfl, by decide, wl.same s1, dv.same s1, dp, fun d hd => ⟨ok d hd, d.lv_le⟩, by decide, by omega, fun t H2 s2 dt => ?_⟩
  have sA := s1.trans s2
  have hx2 := sA _ _ hx
  refine ⟨_, rfl, x, _, dx, _, rfl, hx2, T.c_Script.cl, T.f_Script_held, by decide, ?_⟩
  have k3 : Kp (fun b => b = x) H2 (upd H2 x (.ins c.Script dx (putF "held" t []))) := kp_upd rfl
  have wl3 : Wl Mu (upd H2 x (.ins c.Script dx (putF "held" t []))) := (wl.same sA).kp k3
  have dt3 : Dat Mu (upd H2 x (.ins c.Script dx (putF "held" t []))) t (.tuple (cs.map Cm.chk)) := dt.keep (kp_upd mx)
  have hx3 : upd H2 x (.ins c.Script dx (putF "held" t [])) x = some (.ins c.Script dx [("held", t)]) := upd_same
  generalize upd H2 x (.ins c.Script dx (putF "held" t [])) = H3 at k3 wl3 dt3 hx3 ⊢
  refine ⟨_, rfl, x, _, dx, _, _, rfl, hx3, T.c_Script.cl, T.f_Script_held, rfl, Nat.zero_le _, fun p4 np4 => ?_⟩
  have s4 : Same H3 (upd H3 p4 (.tup [])) := same_new np4
  refine ⟨Mu, t, .ref p4, cs, [], rfl, by decide, wl3.same s4, dt3.same s4, .tup (wl3.new np4) upd_same .nil, fun d hd => ⟨ok d hd, d.lv_le⟩, by decide, by omega, fun p5 H5 s5 d5 n5 => ?_⟩
  obtain ⟨_, xs5, e5, m5, h5, r5⟩ := d5.asLst
  cases e5
  have wl5 := (wl3.same s4).same s5
  refine ⟨Mu, xs5, _, p5, wl5, rfl, SqL.of h5, r5, fun p6 H6 s6 d6 n6 => ?_⟩
  have sB := (s4.trans s5).trans s6
  have hx6 := sB _ _ hx3
  refine ⟨_, rfl, x, _, dx, _, rfl, hx6, T.c_Script.cl, T.f_Script_whole, (by show 1 < 1000; decide), ?_⟩
  have k7 : Kp (fun b => b = x) H6 (upd H6 x (.ins c.Script dx (putF "whole" (.ref p6) [("held", t)]))) := kp_upd rfl
  have kmu : Kp Mu H6 (upd H6 x (.ins c.Script dx (putF "whole" (.ref p6) [("held", t)]))) := kp_upd mx
  have dt7 := (dt3.same sB).keep kmu
  have d7 := d6.keep kmu
  have hx7 : upd H6 x (.ins c.Script dx (putF "whole" (.ref p6) [("held", t)])) x = some (.ins c.Script dx [("held", t), ("whole", .ref p6)]) := upd_same
  generalize upd H6 x (.ins c.Script dx (putF "whole" (.ref p6) [("held", t)])) = H7 at k7 dt7 d7 hx7 ⊢
  have lp := pairsC_len [] 0 cs
  refine ⟨_, rfl, x, _, dx, _, _, rfl, hx7, T.c_Script.cl, T.f_Script_whole, rfl, _, d7.lenT, _, _, rfl, rfl, _, rfl, ?_⟩
  rw [decide_eq_false (by omega)]
  exact iteF (q H7 t _ ((((Kp.ofSame sA).trans k3).trans (.ofSame sB)).trans k7) hx7 dt7 d7)
theorem scr_made {Mu : Mut1} {H H' : Hp} {x dx : Addr} {t u : V} {cs : List Cm} (wl : Wl Mu H) (nx : H x = none) (nd : H dx = none) (ne : dx ≠ x) (k : Kp (fun b => b = x) (upd (upd H dx (.own x)) x (.ins c.Script dx [])) H') (h : H' x = some (.ins c.Script dx [("held", t), ("whole", u)])) (d : Dat (wi Mu x) H' t (.tuple (cs.map Cm.chk))) (e : Dat (wi Mu x) H' u (.tuple (pairsC [] 0 cs))) :
    Same H H' ∧ Scr c Mu H' (.ref x) cs := by
  have s0 := same_ins (C := c.Script) nx nd ne
  exact ⟨fun b o e => k.at_ b o (ne_of_none e nx) (s0 b o e), t, u, ⟨x, dx, rfl, wl.new nx, h⟩, d.less fun b m => .inl m, e.less fun b m => .inl m⟩
def spScrEq (c : Cs) : Sp := fun vs H Q _ => ∃ (Mu Mv : Mut1) (v u : V) (cs : List Cm), vs = [v, u] ∧ Scr c Mu H v cs ∧ Scr c Mv H u cs ∧ (∀ d ∈ cs, d.ok) ∧ Q (.bl true) H
theorem sc_Script___eq__ : FnScope ["self", "other"] ["self", "other"] (defScope s_Script___eq__) := ⟨rfl, rfl, rfl, by decide +kernel, rfl, by decide +kernel, by decide +kernel⟩
theorem ok_Script___eq__ (T : Txt w K mg c) : MDef P w K mg base CX0 c.Script "__eq__" ["self", "other"] 1 (spScrEq c) := by
  refine T.m_Script___eq__.def_ T.c_Script.cl sc_Script___eq__ (fun vs H Q E ⟨_, _, _, _, _, e, _⟩ => by rw [e]; rfl) (fun _ _ _ _ _ _ us hl => match us, hl with | [_, _], _ => rfl) fun f cdv A outer s H vs Q E hr h => ?_
  obtain ⟨Mu, Mv, v, u, cs, rfl, ⟨t, _, ⟨a, dx, rfl, ma, ha⟩, dt, _⟩, ⟨t', _, ⟨a', dx', rfl, ma', ha'⟩, dt', _⟩, ok, q⟩ := h
  refine ⟨_, PSs.nox (pss_one (ps_ret (pe_and (isiC T.c_Script T.n_isinstance (pa_cons (pv 1) (pa_cons (gcls T.c_Script) pa_nil))) (pe_one (pe_cmpR (op_eqD hr.units) (pe_fld (pv 0) rfl) (pe_fld (pv 1) rfl) (nomark _)))))), ?_⟩
  have ly := cms_lay ok
  refine ⟨_, rfl, a', dx', _, rfl, ha', _, rfl, iteT ⟨_, rfl, a, _, dx, _, _, rfl, ha, T.c_Script.cl, T.f_Script_held, rfl, _, rfl, a', _, dx', _, _, rfl, ha', T.c_Script.cl, T.f_Script_held, rfl, _, _, dt.dp, dt'.dp, ly.shaped, ly.shaped, ?_⟩⟩
  rw [ly.refl]
  exact q
end
end AG
namespace PySem.SeqAt
open AutoSeq1 (wpAny_loadPart')
open MeetsSeq MeetsSeq2 MeetsSeq3 SeqRoads2
/-- == of lists of unlike lengths -/
theorem ag_lens_differ {prog : Program} {w : World} (l b : Addr) (items items2 : Array Value) (n n2 : Nat) (hsz : items.size ≠ items2.size) :
    MeetsIn prog w (Builtin.«list.__eq__» ⟨[.ref l, .ref b], []⟩)
      (fun A R s => s.heap.get? l = some { cls := .type "list", data := .seq items n } ∧ s.heap.get? b = some { cls := .type "list", data := .seq items2 n2 } ∧ R (.ok (.ret (.bool false))) s) := by
  intro A R s h
  obtain ⟨hp, g, d, tk, os⟩ := s
  obtain ⟨hl, hb, h⟩ := h
  have f3 := AutoSeq1.sub_list_list
  have ne : (items.size != items2.size) = true := by simp [hsz]
  wp_walk using wpAny_loadPart' hl, wpAny_loadPart' hb
  exact h
end PySem.SeqAt
namespace AG
open PySem PySem.Spec PyProof.Rows L2
/-- xs == [] of a list of any things -/
def rEqNil : R2 := fun x y H Q => ∃ a b xs, x = .ref a ∧ y = .ref b ∧ H a = some (.lst xs) ∧ H b = some (.lst []) ∧ Q (.bl xs.isEmpty) H
theorem op_eqNil {X : Cx} (hu : X.A.units < cLine) : OpR X (compareOp .Eq) rEqNil := by
  intro pins s σ H x y v u Q I rx ry h
  obtain ⟨a, b, xs, rfl, rfl, ha, hb, q⟩ := h
  cases rx
  cases ry
  obtain ⟨za, its, n, rv, ea⟩ := (show ObjOk X.prog X.w H s.heap a (.lst xs) from I.hok a _ ha)
  obtain ⟨zb, its2, n2, rv2, eb⟩ := (show ObjOk X.prog X.w H s.heap b (.lst []) from I.hok b _ hb)
  cases rv2
  have ta : s.TypeIs (.ref a) "list" := ⟨_, ea, rfl⟩
  have tb : s.TypeIs (.ref b) "list" := ⟨_, eb, rfl⟩
  cases rv with
  | nil =>
    refine SeqAt.rcP_lists (e := fun _ => true) (items := #[]) (items2 := #[]) ⟨_, ea, rfl, _, rfl⟩ ⟨_, eb, rfl, _, rfl⟩ rfl hu (fun j h1 => absurd h1 (Nat.not_lt_zero _)) _ _ ?_
    exact ⟨.bl true, H, I, rfl, q⟩
  | @cons x0 u0 xr ur r0 rr =>
    refine wpAny_richCompare_same_room (op := .Eq) ta tb F.slot_list_eq (call_meetsIn F.slot_list_eq ta F.entry_list_eq (F.args_list_eq_2 _ _) (SeqAt.ag_lens_differ a b _ _ n n2 (by simp)) ⟨ea, eb, (fun x => nomatch x), ?_⟩) hu
    exact ⟨.bl false, H, I, rfl, q⟩
end AG
namespace AG
open PySem PySem.Spec PyProof.Rows L2
/-! ### what is not a list, tuple, instance may change -/
def Other (o : Option HO) : Prop := (∀ xs, o ≠ some (.lst xs)) ∧ (∀ xs, o ≠ some (.tup xs)) ∧ ∀ C dx fs, o ≠ some (.ins C dx fs)
theorem other_none : Other none := ⟨fun _ => nofun, fun _ => nofun, fun _ _ _ => nofun⟩
theorem other_dK {kvs : List (Key × V)} : Other (some (.dK kvs)) := ⟨fun _ => nofun, fun _ => nofun, fun _ _ _ => nofun⟩
mutual
theorem Dat.grow2 {Mu Mv : Mut1} {H : Hp} (g : ∀ b, Mv b → Mu b ∨ Other (H b)) : ∀ {v : V} {d : PyData}, Dat Mu H v d → Dat Mv H v d
  | _, _, .non => .non
  | _, _, .bl b => .bl b
  | _, _, .int i => .int i
  | _, _, .str x => .str x
  | _, _, .lst m h r => .lst (fun q => (g _ q).elim m fun n => n.1 _ h) h (Dats.grow2 g r)
  | _, _, .tup m h r => .tup (fun q => (g _ q).elim m fun n => n.2.1 _ h) h (Dats.grow2 g r)
theorem Dats.grow2 {Mu Mv : Mut1} {H : Hp} (g : ∀ b, Mv b → Mu b ∨ Other (H b)) : ∀ {vs : List V} {ds : List PyData}, Dats Mu H vs ds → Dats Mv H vs ds
  | _, _, .nil => .nil
  | _, _, .cons h t => .cons (Dat.grow2 g h) (Dats.grow2 g t)
end
theorem Ins.grow2 {Mu Mv : Mut1} {H : Hp} {C : Addr} {v : V} {fs : List (Str × V)} (g : ∀ b, Mv b → Mu b ∨ Other (H b)) (h : Ins Mu H C v fs) : Ins Mv H C v fs := by
  obtain ⟨a, dx, e, m, h⟩ := h
  exact ⟨a, dx, e, fun q => (g _ q).elim m fun n => n.2.2 _ _ _ h, h⟩
theorem Ctx.grow2 {c : Cs} {Mu Mv : Mut1} {H : Hp} {v : V} {rs : List Row} (g : ∀ b, Mv b → Mu b ∨ Other (H b)) (h : Ctx c Mu H v rs) : Ctx c Mv H v rs := let ⟨t, i, d⟩ := h; ⟨t, i.grow2 g, d.grow2 g⟩
theorem Scr.grow2 {c : Cs} {Mu Mv : Mut1} {H : Hp} {v : V} {cs : List Cm} (g : ∀ b, Mv b → Mu b ∨ Other (H b)) (h : Scr c Mu H v cs) : Scr c Mv H v cs := let ⟨t, u, i, d, e⟩ := h; ⟨t, u, i.grow2 g, d.grow2 g, e.grow2 g⟩
/-- what stands for an entry -/
def EntV (c : Cs) (Mu : Mut1) (H : Hp) (v : V) (e : Ent) : Prop := ∃ a k g s, v = .ref a ∧ ¬ Mu a ∧ H a = some (.tup [k, g, s]) ∧ Ctx c Mu H k e.rows ∧ Dat Mu H g e.goal.d ∧ Scr c Mu H s e.cmds
theorem EntV.keep {c : Cs} {Mu : Mut1} {H H' : Hp} {v : V} {e : Ent} (h : EntV c Mu H v e) (k : Kp Mu H H') : EntV c Mu H' v e := by
  obtain ⟨a, x, g, s, ev, m, ha, h1, h2, h3⟩ := h
  exact ⟨a, x, g, s, ev, m, k.at_ _ _ m ha, h1.keep k, h2.keep k, h3.keep k⟩
theorem EntV.grow2 {c : Cs} {Mu Mv : Mut1} {H : Hp} {v : V} {e : Ent} (g : ∀ b, Mv b → Mu b ∨ Other (H b)) (h : EntV c Mu H v e) : EntV c Mv H v e := by
  obtain ⟨a, x, y, s, ev, m, ha, h1, h2, h3⟩ := h
  exact ⟨a, x, y, s, ev, fun q => (g _ q).elim m fun n => n.2.1 _ ha, ha, h1.grow2 g, h2.grow2 g, h3.grow2 g⟩
abbrev KvE (c : Cs) (Mu : Mut1) (H : Hp) : List (Key × V) → List Ent → Prop := Paired fun kv e => kv.1 = Sum.inr e.name ∧ EntV c Mu H kv.2 e
theorem KvE.imp {c : Cs} {Mu Mv : Mut1} {H H' : Hp} (f : ∀ v e, EntV c Mu H v e → EntV c Mv H' v e) : ∀ {kvs : List (Key × V)} {es : List Ent}, KvE c Mu H kvs es → KvE c Mv H' kvs es
  | _, _, .nil => .nil
  | _, _, .cons h t => .cons ⟨h.1, f _ _ h.2⟩ (KvE.imp f t)
theorem KvE.keep {c : Cs} {Mu : Mut1} {H H' : Hp} {kvs : List (Key × V)} {es : List Ent} (h : KvE c Mu H kvs es) (k : Kp Mu H H') : KvE c Mu H' kvs es := h.imp fun _ _ e => e.keep k
theorem KvE.grow2 {c : Cs} {Mu Mv : Mut1} {H : Hp} {kvs : List (Key × V)} {es : List Ent} (g : ∀ b, Mv b → Mu b ∨ Other (H b)) (h : KvE c Mu H kvs es) : KvE c Mv H kvs es := h.imp fun _ _ e => e.grow2 g
theorem KvE.len {c : Cs} {Mu : Mut1} {H : Hp} : ∀ {kvs : List (Key × V)} {es : List Ent}, KvE c Mu H kvs es → kvs.length = es.length
  | _, _, .nil => rfl
  | _, _, .cons _ t => congrArg Nat.succ (KvE.len t)
theorem KvE.keys {c : Cs} {Mu : Mut1} {H : Hp} : ∀ {kvs : List (Key × V)} {es : List Ent}, KvE c Mu H kvs es → kvs.map (·.1) = (names es).map Sum.inr
  | _, _, .nil => rfl
  | _, _, .cons h t => by
    rw [List.map_cons, KvE.keys t, h.1]
    rfl
theorem KvE.at_ {c : Cs} {Mu : Mut1} {H : Hp} : ∀ {kvs : List (Key × V)} {es : List Ent} {i : Nat} {k : Key} {v : V}, KvE c Mu H kvs es → kvs[i]? = some (k, v) → ∃ e, es[i]? = some e ∧ k = Sum.inr e.name ∧ EntV c Mu H v e
  | _, _, _, _, _, .nil, e => by simp at e
  | _, _, 0, _, _, .cons h _, e => by
    cases e
    exact ⟨_, rfl, h.1, h.2⟩
  | _, _, i + 1, k, v, .cons _ t, e => KvE.at_ (i := i) (k := k) (v := v) t e
theorem KvE.val {c : Cs} {Mu : Mut1} {H : Hp} (x : Str) : ∀ {kvs : List (Key × V)} {es : List Ent}, KvE c Mu H kvs es → (∃ v e, valV kvs (Sum.inr x) = some v ∧ ent? es x = some e ∧ EntV c Mu H v e) ∨ (valV kvs (Sum.inr x) = none ∧ ent? es x = none)
  | _, _, .nil => .inr ⟨rfl, rfl⟩
  | (k, v) :: kvs, e :: es, .cons h t => by
    by_cases hx : e.name = x
    · refine .inl ⟨v, e, valV_pos (by rw [h.1, hx]), ?_, h.2⟩
      unfold ent?
      rw [List.find?_cons, decide_eq_true hx]
    · have e1 : valV ((k, v) :: kvs) (Sum.inr x) = valV kvs (Sum.inr x) := valV_neg (by rw [h.1]; exact fun z => hx (Sum.inr.inj z))
      have e2 : ent? (e :: es) x = ent? es x := by
        unfold ent?
        rw [List.find?_cons, decide_eq_false hx]
      rw [e1, e2]
      exact KvE.val x t
theorem KvE.has {c : Cs} {Mu : Mut1} {H : Hp} {kvs : List (Key × V)} {es : List Ent} (h : KvE c Mu H kvs es) (x : Str) : (valV kvs (Sum.inr x)).isSome = decide (has es x) := by
  rcases h.val x with ⟨v, e, h1, h2, _⟩ | ⟨h1, h2⟩
  · rw [h1, decide_eq_true (ent_has h2).1]
    rfl
  · rw [h1, decide_eq_false fun z => by
      obtain ⟨e, he, _⟩ := ent_some z
      rw [h2] at he
      cases he]
    rfl
/-- a dict of the shelf's entries -/
def Cont (c : Cs) (Mu : Mut1) (H : Hp) (d : Addr) (es : List Ent) : Prop := ¬ Mu d ∧ ∃ kvs, H d = some (.dK kvs) ∧ KvE c Mu H kvs es
theorem Cont.keep {c : Cs} {Mu : Mut1} {H H' : Hp} {d : Addr} {es : List Ent} (h : Cont c Mu H d es) (k : Kp Mu H H') : Cont c Mu H' d es := ⟨h.1, let ⟨kvs, hd, r⟩ := h.2; ⟨kvs, k.at_ _ _ h.1 hd, r.keep k⟩⟩
theorem Cont.grow {c : Cs} {Mu Mv : Mut1} {H : Hp} {d : Addr} {es : List Ent} (g : ∀ b, Mv b → Mu b ∨ H b = none) (h : Cont c Mu H d es) : Cont c Mv H d es := by
  obtain ⟨m, kvs, hd, r⟩ := h
  refine ⟨fun q => (g _ q).elim m fun n => ?_, kvs, hd, r.grow2 fun b mb => (g b mb).imp id fun n => by rw [n]; exact other_none⟩
  rw [hd] at n
  cases n
theorem dgetE {H : Hp} {d : Addr} {kvs : List (Key × V)} (h : Rd H d (.dK kvs)) (x : Str) : DGet H d (.str x) (valV kvs (Sum.inr x)) := .inl ⟨kvs, Sum.inr x, h, rfl, rfl⟩
end AG
namespace AG
open PySem PySem.Spec PyProof.Rows L2 GenW
theorem gsc_walk : GScope ["self"] ["self"] (defScope s_Script_walk) := ⟨rfl, rfl, rfl, by decide, rfl, by decide +kernel, by decide +kernel⟩
/-- o.walk() -/
def tGw (C : Addr) (ta : TE) : TGw := fun σ H R => ta σ H fun x H1 => ∃ a dx fs t xs, x = .ref a ∧ H1 a = some (.ins C dx fs) ∧ fs.lookup ("walk" : Str) = none ∧ fs.lookup ("whole" : Str) = some (V.ref t) ∧ H1 t = some (.tup xs) ∧ R t xs H1
section
variable {X : Cx} {C : Addr} {k : Nat} {o : Expr} {ta : TE} {apos pos' : Pos}
theorem pgw_walk {pl : Sem Bool} (he : PE X o ta) (c : Cls X.K C) (T : MethD X.K C "walk" "Script.walk" s_Script_walk [] []) (na : NoAttr X.K C "whole") (hr : Room k X.A)
    (ht : eval (.Call (.Attribute o "walk" apos) [] [] pos') X.env = (do
      let ov ← eval o X.env
      standAt apos.atName
      let (f, first) ← holding [ov] (getMethod ov "walk" pl)
      callWith pos' f first (backTo pos' (starEach [] X.env)) (backToKw pos' (keywordEach [] X.env))) := by rfl) : PGw X (.Call (.Attribute o "walk" apos) [] [] pos') (tGw C ta) := by
  obtain ⟨f, fd, hm, F⟩ := T.ex
  have bd : Binds X.K fd ["self"] [] := F.bindsN fun _ _ _ _ _ _ us hl => match us, hl with | [_], _ => rfl
  obtain ⟨oc, od, dV, kV, doc, pm, an, cdv, ct, osl, rfl, lk, hcd, _, _⟩ := F.ex
  have S := gsc_walk
  refine ⟨fun pins s0 σ H R I0 h => ?_⟩
  refine PySem.W.methodCall_KW (pl := pl) (thn (he.run pins s0 σ H _ I0 h) fun u s ⟨x, H1, I, rx, a, dx, fs, t, xs, ex, ea, l1, l2, htup, q⟩ => ?_) ht
  subst ex
  obtain rfl : u = Value.ref a := rx
  refine getmeth_ok I ea c hm l1 ?_
  refine PySem.W.callWith_K0 (first := [.ref a]) I.kIn hm.kp (wpAny_call ?_)
  have hb := bd s [.ref a] I.kIn rfl
  have hkind : ∀ y ∈ [("self" : Str)].zip [Value.ref a], (defScope s_Script_walk).names.lookup y.1 = some .local ∨ ((defScope s_Script_walk).names.lookup y.1 = some .cell ∧ ((cellsFrom (s.heap.objs.size + 1) (defScope s_Script_walk).names []).lookup y.1).isSome = true) := fun ⟨n, v⟩ hy => by
    rcases S.par n (List.of_mem_zip hy).1 with q | q
    · exact .inl q
    · exact .inr ⟨q, PySem.W.cellsFrom_some _ _ _ (.inl q)⟩
  refine codeAny_call_generator hr.depth (I.kIn _ _ lk) rfl S.co S.gen rfl (PySem.W.codeRec_of I.kIn hcd) (hb _ _ _ _ ?_)
  refine wpAny_newFunctionEnv_cells S.kind hkind fun env he s1 z => ?_
  obtain ⟨h1, tk, es1, k1⟩ := z.done
  have lim1 : s1.heap.NoLimit := I.nolimit.keeps z.toInCall.keep
  have lt1 : s.heap.objs.size < s1.heap.objs.size := by
    exact Nat.lt_of_le_of_lt z.toInCall.fresh z.toInCall.ns.lt
  have kp1 : ∀ b o, s.heap.get? b = some o → s1.heap.get? b = some o := z.toInCall.keep
  have hs1 : s1 = { s with heap := s1.heap, toks := s1.toks } := by rw [es1]
  have I1 : Inv X pins σ H1 s1 := by
    rw [hs1]
    exact I.kept (t' := s1.toks) kp1
  have made : ∀ (go : Obj) (nm qn : Value) (tk2 : Nat), go.cls = .type "generator" → go.data = .fields #[.int s1.gens.size 0, nm, qn] → go.slots = #[] → (∀ h : Heap, (h.push go).get? h.objs.size = some go) →
      GenAt X pins σ R (.ref s1.heap.objs.size) { s1 with gens := s1.gens.push (.fresh (.func (defBody s_Script_walk) env)), toks := tk2, heap := s1.heap.push go } := by
    intro go nm qn tk2 g1 g2 g3 gp
    have kp2 : ∀ b o, s1.heap.get? b = some o → (s1.heap.push go).get? b = some o := fun b o e => Heap.get?_push_of_some _ e
    have I2 : Inv X pins σ H1 { s1 with gens := s1.gens.push (.fresh (.func (defBody s_Script_walk) env)), toks := tk2, heap := s1.heap.push go } := inv_gens (I1.kept (t' := tk2) kp2) (AllBare.push I1.bare rfl)
    refine ⟨s1.heap.objs.size, s1.gens.size, _, t, xs, H1, rfl, I2, ?_, ?_, ⟨go, nm, qn, gp _, g1, g2, g3⟩, Array.getElem?_push_size .., htup, q, fun B s2 hB ext tv => ?_⟩
    · obtain ⟨f0, f1, f2, f3, f4, f5⟩ := I1.fpOk (H' := H1) (Nat.le_refl _) (I1.hok.fresh (Nat.le_refl _))
      exact ⟨f0, f1, f2, f3, f4, f5⟩
    · show _ < (s1.heap.push go).objs.size
      rw [Heap.size_push]
      exact Nat.lt_succ_self _
    · have ext1 : ∀ b o, s1.heap.get? b = some o → s2.heap.get? b = some o := fun b o e => ext b o (kp2 b o e)
      have hok2 : HOk X.prog X.w H1 s2.heap := I1.hok.kept ext1
      have kin2 : X.K.In s2.heap := I1.kIn.keeps ext1
      have esc : env.scope = defScope s_Script_walk := by rw [he]; rfl
      have kind : env.scope.kind = .function := by rw [esc]; exact S.kind
      have self_ : env.kindOf "self" = some .local := by
        unfold Env.kindOf
        rw [esc]
        decide +kernel
      refine seg_body (e := _) (yp := _) (pos := _) (by rw [he]; rfl) hB (Nat.le_succ _) tv fun E Q hQ => ?_
      obtain ⟨mA, O, r, _, _, _⟩ := ins_get hok2 ea
      obtain ⟨u, hu, ru⟩ := RelO.some_of (v := .ref t) (o := mA "whole") (by rw [← l2]; exact r "whole")
      have rt := handed_of ru
      obtain rfl : u = Value.ref t := ru
      refine attr_of (by rfl) (wpAny_Name (wpAny_loadName_local (v := .ref a) kind self_ (Heap.Ns.keeps z.toInCall.ns ext1) ?_ ?_) (by decide +kernel))
      · exact bindL_get (P := ["self"]) (vs := [Value.ref a]) (List.nodup_cons.mpr ⟨List.not_mem_nil, .nil⟩) (i := 0) rfl rfl self_
      · exact get_map kin2 O (c.get "whole") c.hd na hu rt (hQ _)
  exact ⟨lim1, made _ _ _ _ rfl rfl rfl fun h => Heap.get?_push_size _ rfl⟩

/-- y = [..] over a generator, on one line -/
theorem ps_setLcG {i : Nat} {y : Str} {py : Pos} {elt tg iter : Expr} {ifs : List Expr} {scope : Scope} {own : List (Str × Nat)} {pos spos : Pos} {tw : TGw} {g : TG} {tt : TT} {te : TE} (hc : X.calm = true) (rm : X.A.depth < recursionLimit) (hN : X.N.Nodup) (hy : X.N[i]? = some y) (loc : X.env.scope.names.lookup y = some .local)
    (sw : swapsWith (.ListComp elt [⟨tg, iter, ifs, 0⟩] scope pos) (some (.Name y py)) spos.line X.env = pure true) (hi : PGw X iter tw) (ok : BlkOk X.N X.env.scope scope own)
    (hg : ∀ (s : Shared) (H : Hp) (D : Addr) (cl : List (Str × Addr)) (fp : List Addr), PG (X.blk s H scope (compEnvC scope cl D X.env) fp) tg g) (hp : ∀ (s : Shared) (H : Hp) (D : Addr) (cl : List (Str × Addr)) (fp : List Addr), PTs (X.blk s H scope (compEnvC scope cl D X.env) fp) ifs tt)
    (he : ∀ (s : Shared) (H : Hp) (D : Addr) (cl : List (Str × Addr)) (fp : List Addr), PE (X.blk s H scope (compEnvC scope cl D X.env) fp) elt te) (hs : ∀ x, foldedSetIterable iter X.env x = pure x := by intro _; rfl) :
    PS X (.Assign [.Name y py] (.ListComp elt [⟨tg, iter, ifs, 0⟩] scope pos) spos) (tAsg (tLcG tw g tt te (own.map (·.2))) (gName i)) := by
  refine ⟨fun pins s σ H D I h => ?_⟩
  rw [exec_Assign_Name_used _ _ _ _ sw]
  refine wpAny_bind (wpAny_standAt (wpAny_bind ?_))
  have h : tLcG tw g tt te (own.map (·.2)) σ H (fun x H1 => gName i x σ H1 D.nx) := h
  show wpAny (model X.prog X.w) X.A (comprehension (.ListComp elt [⟨tg, iter, ifs, 0⟩] scope pos) scope X.env (firstIterPos [⟨tg, iter, ifs, 0⟩] pos) (newList []) false (eval iter X.env) (some (assign (.Name y py) X.env)) >>= fun _ => _) _ _ s
  refine wpAny_bind (thn (lcG_core (Qf := fun _ z => SP X pins D .next z) hc rm hN I hi ok hg hp he hs h fun L F z m H' I' q hn f => ?_) fun _ z hq => wpAny_pure (wpAny_pure hq))
  refine wpAny_assign_Name (store_ok2 (v := V.ref L) I' hN hy (.inl loc) rfl (fun z2 I2 ⟨a, sb, ha⟩ => ?_) (.inr loc))
  obtain ⟨f0, f1, f2, f3, f4, f5⟩ := f
  have ne : F ≠ a := ha.elim (fun e => e ▸ f1) fun e q => f4 y a e q.symm
  exact ⟨m, hn.sameBut sb ne, fun h3 sb3 => ⟨_, H', I2.turned (t' := z2.toks) (fun b o hb e => (sb3.2 b hb).trans e) f0 f1 f3 f4 f5, q⟩⟩
end
end AG
namespace AG
open PySem PySem.Spec PyProof.Rows L2
/-- a dict comprehension over any walk -/
theorem dc_it {J : It} {n : Nat} {G : Hp → Prop} {Y : Nat → Hp → V → Hp → Prop} (w : Walk J n G Y) {g : TG} {tt : TT} {tk tv : TE} {vs : List Nat} {σ : L2.St} {H1 : Hp} {D : Addr} {Qd : Hp → Prop} (I : Nat → Hp → Prop) (i0 : I 0 (upd H1 D (.dK []))) (iG : ∀ i H, I i H → G H)
    (turn : ∀ i x H H', i < n → I i H → Y i H x H' → g x (wipe σ vs) H' fun σ2 H2 => wipe σ2 vs = wipe σ vs ∧ tt σ2 H2 fun b H3 =>
      if b = true then tk σ2 H3 fun y H4 => tv σ2 H4 fun z H5 => ∃ kvs k, y = kV k ∧ H5 D = some (.dK kvs) ∧ kvs.length < sizeLine ∧ I (i + 1) (upd H5 D (.dK (putK kvs k z))) else I (i + 1) H3) (last : ∀ H, I n H → Qd H) :
    ∃ W : Nat → Nat → Hp → Prop, (∃ m, W 0 m (upd H1 D (.dK []))) ∧ ∀ i m H, W i m H →
      (J.stop i H ∧ Qd H) ∨ (J.go i H ∧ ∃ Nx : Hp → Prop, (∀ H', Nx H' → ∃ m', m' < m ∧ W (i + 1) m' H') ∧ ∀ x H', J.yld i H x H' → g x (wipe σ vs) H' fun σ2 H2 => wipe σ2 vs = wipe σ vs ∧ tt σ2 H2 fun b H3 =>
        if b = true then tk σ2 H3 fun y H4 => tv σ2 H4 fun z H5 => ∃ kvs k, y = kV k ∧ H5 D = some (.dK kvs) ∧ kvs.length < sizeLine ∧ Nx (upd H5 D (.dK (putK kvs k z))) else Nx H3) := by
  refine ⟨fun i m H => m = n - i ∧ i ≤ n ∧ I i H, ⟨n, rfl, Nat.zero_le _, i0⟩, fun i m H ⟨em, hi, p⟩ => ?_⟩
  subst em
  by_cases lt : i < n
  · exact .inr ⟨w.goes i H lt (iG i H p), I (i + 1), fun H' p' => ⟨n - (i + 1), by omega, rfl, lt, p'⟩, fun x H' y => turn i x H H' lt p (w.yields i H x H' lt (iG i H p) y)⟩
  · obtain rfl : i = n := by omega
    exact .inl ⟨w.stops H (iG i H p), last H p⟩
/-- name = {k: v for ..} on one line, the name a local -/
theorem ps_setDc {X : Cx} {i : Nat} {y : Str} {py : Pos} {kx vx tg iter : Expr} {ifs : List Expr} {scope : Scope} {own : List (Str × Nat)} {pos spos : Pos} {wi : TI} {g : TG} {tt : TT} {tk tv : TE} (hc : X.calm = true) (hN : X.N.Nodup) (hy : X.N[i]? = some y) (hyl : X.env.scope.names.lookup y = some .local)
    (hsw : swapsWith (.DictComp kx vx [⟨tg, iter, ifs, 0⟩] scope pos) (some (.Name y py)) spos.line X.env = pure true) (hi : PI X tg iter wi) (ok : BlkOk X.N X.env.scope scope own)
    (hg : ∀ (s : Shared) (H : Hp) (C : Addr) (cl : List (Str × Addr)) (fp : List Addr), PG (X.blk s H scope (compEnvC scope cl C X.env) fp) tg g) (ht : ∀ (s : Shared) (H : Hp) (C : Addr) (cl : List (Str × Addr)) (fp : List Addr), PTs (X.blk s H scope (compEnvC scope cl C X.env) fp) ifs tt)
    (hk : ∀ (s : Shared) (H : Hp) (C : Addr) (cl : List (Str × Addr)) (fp : List Addr), PE (X.blk s H scope (compEnvC scope cl C X.env) fp) kx tk) (he : ∀ (s : Shared) (H : Hp) (C : Addr) (cl : List (Str × Addr)) (fp : List Addr), PE (X.blk s H scope (compEnvC scope cl C X.env) fp) vx tv)
    (hs : ∀ x, foldedSetIterable iter X.env x = pure x := by intro _; rfl) : PS X (.Assign [.Name y py] (.DictComp kx vx [⟨tg, iter, ifs, 0⟩] scope pos) spos) (tAsg (tDc wi g tt tk tv (own.map (·.2))) (gName i)) := by
  refine ⟨fun pins s σ H D I h => ?_⟩
  rw [exec_Assign_Name_used _ _ _ _ hsw]
  refine wpAny_bind (wpAny_standAt (wpAny_bind ?_))
  show wpAny _ X.A (do let _ ← comprehension (.DictComp kx vx [⟨tg, iter, ifs, 0⟩] scope pos) scope X.env (firstIterPos [⟨tg, iter, ifs, 0⟩] pos) newDict false (eval iter X.env) (some (assign (.Name y py) X.env))) _ _ s
  have h : tDc wi g tt tk tv (own.map (·.2)) σ H (fun x H1 => gName i x σ H1 D.nx) := h
  refine wpAny_bind (thn (dc_core (Qf := fun _ s' => SP X pins D .next s') hc hN I hi ok hg ht hk he hs h fun L C s' m H' I' q hn f => ?_) fun _ s' hq => wpAny_pure (wpAny_pure hq))
  show wpAny _ _ (assign (.Name y py) X.env (.ref L)) _ _ _
  obtain ⟨f0, f1, f2, f3, f4, f5⟩ := f
  refine wpAny_assign_Name (store_ok2 (v := V.ref L) I' hN hy (.inl hyl) rfl (fun s2 I2 ⟨a, sb, ha⟩ => ?_) (.inr hyl))
  have apart : C ≠ a := by
    rcases ha with z | z
    · rw [z]
      exact f1
    · exact fun e => f4 y a z e.symm
  exact ⟨m, hn.sameBut sb apart, fun h3 sb3 => ⟨_, H', I2.turned (t' := s2.toks) (fun b o hb e => (sb3.2 b hb).trans e) f0 f1 f3 f4 f5, q⟩⟩
theorem sw_dc {kx vx : Expr} {gs : List Comprehension} {scope : Scope} {pos py : Pos} {y : Str} {l : Nat} {env : Env} (hk : env.scope.kind = .function) (hy : env.scope.names.lookup y = some .local) (hl : (py.line == pos.line) = true)
    (ha : (scope.names.any fun (n, k) => n == y && (k == .local || k == .cell)) = false) : swapsWith (.DictComp kx vx gs scope pos) (some (.Name y py)) l env = pure true := by
  have k1 : env.kindOf y = some .local := hy
  have k2 : env.blockKind = .function := by
    unfold Env.blockKind
    rw [hk]
    rfl
  unfold swapsWith
  simp only [k2, k1, ha, Expr.pos, hl]
  rfl
/-! ### dicts of formulas by names -/
abbrev Fact := Str × Fm
abbrev KvF (Mu : Mut1) (H : Hp) : List (Key × V) → List Fact → Prop := Paired fun kv p => kv.1 = Sum.inr p.1 ∧ Dat Mu H kv.2 p.2.d
theorem KvF.imp {Mu Mv : Mut1} {H H' : Hp} (f : ∀ v d, Dat Mu H v d → Dat Mv H' v d) : ∀ {kvs : List (Key × V)} {fs : List Fact}, KvF Mu H kvs fs → KvF Mv H' kvs fs
  | _, _, .nil => .nil
  | _, _, .cons h t => .cons ⟨h.1, f _ _ h.2⟩ (KvF.imp f t)
theorem KvF.keep {Mu : Mut1} {H H' : Hp} {kvs : List (Key × V)} {fs : List Fact} (h : KvF Mu H kvs fs) (k : Kp Mu H H') : KvF Mu H' kvs fs := h.imp fun _ _ e => e.keep k
theorem KvF.snoc {Mu : Mut1} {H : Hp} {x : Str} {v : V} {f : Fm} (d : Dat Mu H v f.d) : ∀ {kvs : List (Key × V)} {fs : List Fact}, KvF Mu H kvs fs → KvF Mu H (kvs ++ [(Sum.inr x, v)]) (fs ++ [(x, f)])
  | _, _, .nil => .cons ⟨rfl, d⟩ .nil
  | _, _, .cons h t => .cons h (KvF.snoc d t)
theorem KvF.len {Mu : Mut1} {H : Hp} : ∀ {kvs : List (Key × V)} {fs : List Fact}, KvF Mu H kvs fs → kvs.length = fs.length
  | _, _, .nil => rfl
  | _, _, .cons _ t => congrArg Nat.succ (KvF.len t)
theorem KvF.no {Mu : Mut1} {H : Hp} {x : Str} : ∀ {kvs : List (Key × V)} {fs : List Fact}, KvF Mu H kvs fs → x ∉ fs.map Prod.fst → valV kvs (Sum.inr x) = none
  | _, _, .nil, _ => rfl
  | (k, v) :: kvs, p :: fs, .cons h t, n => by
    rw [List.map_cons, List.mem_cons] at n
    rw [valV_neg (by rw [h.1]; exact fun z => n (.inl (Sum.inr.inj z).symm))]
    exact KvF.no t fun z => n (.inr z)
/-- a dict of facts -/
def Fcts (Mu : Mut1) (H : Hp) (d : Addr) (fs : List Fact) : Prop := ¬ Mu d ∧ ∃ kvs, H d = some (.dK kvs) ∧ KvF Mu H kvs fs
theorem Fcts.keep {Mu : Mut1} {H H' : Hp} {d : Addr} {fs : List Fact} (h : Fcts Mu H d fs) (k : Kp Mu H H') : Fcts Mu H' d fs := ⟨h.1, let ⟨kvs, hd, r⟩ := h.2; ⟨kvs, k.at_ _ _ h.1 hd, r.keep k⟩⟩
theorem Fcts.less {Mu Mv : Mut1} {H : Hp} {d : Addr} {fs : List Fact} (g : ∀ b, Mv b → Mu b) (h : Fcts Mu H d fs) : Fcts Mv H d fs := ⟨fun m => h.1 (g d m), let ⟨kvs, hd, r⟩ := h.2; ⟨kvs, hd, r.imp fun _ _ e => e.less g⟩⟩
def statesOf (es : List Ent) (y : Str) : Fm := match ent? es y with
  | some e => states e.rows e.goal
  | none => .no
/-- what is known behind a script -/
def known (es : List Ent) (cs : List Cm) : List Fact := (uniq (recs cs)).map fun y => (y, statesOf es y)
theorem uniq_nodup (xs : List Str) : (uniq xs).Nodup := nodup_fold .nil
theorem recs_len (cs : List Cm) : (recs cs).length ≤ cs.length := by
  induction cs with
  | nil => exact Nat.le_refl _
  | cons d r ih =>
    unfold recs at ih ⊢
    rw [List.flatMap_cons, List.length_append, List.length_cons]
    have : d.rcl.length ≤ 1 := by
      unfold Cm.rcl Sc.rcl
      split <;> simp
    omega
theorem uniq_len (xs : List Str) : (uniq xs).length ≤ xs.length := by
  have := len_fold xs []
  unfold uniq
  simpa using this
/-- a claim -/
def Clm (c : Cs) (Mu : Mut1) (H : Hp) (v : V) (e : Ent) (fs : List Fact) : Prop := ∃ s k g d, Ins Mu H c.Claim v [("own_script", s), ("own_context", k), ("own_goal", g), ("own_facts", .ref d)] ∧ Scr c Mu H s e.cmds ∧ Ctx c Mu H k e.rows ∧ Dat Mu H g e.goal.d ∧ Fcts Mu H d fs
theorem Clm.keep {c : Cs} {Mu : Mut1} {H H' : Hp} {v : V} {e : Ent} {fs : List Fact} (h : Clm c Mu H v e fs) (k : Kp Mu H H') : Clm c Mu H' v e fs := let ⟨s, x, g, d, i, h1, h2, h3, h4⟩ := h; ⟨s, x, g, d, i.keep k, h1.keep k, h2.keep k, h3.keep k, h4.keep k⟩
end AG
namespace AG
open PySem PySem.Spec PyProof.Rows L2
/-- what a pair of path and command recalls -/
def recD : PyData → List Str
  | .tuple [_, .tuple [.str w, .str x]] => if w = "recall" then [x] else []
  | _ => []
structure PairOk (e : PyData) : Prop where
  ex : ∃ (p : List Int) (w : Str) (a : PyData), e = pairD p (.tuple [.str w, a]) ∧ ((∃ x, w = "recall" ∧ a = .str x ∧ recD e = [x]) ∨ (w ≠ "recall" ∧ recD e = []))
theorem sc_pair (p : List Int) (s : Sc) : PairOk (pairD p s.d) ∧ recD (pairD p s.d) = s.rcl := by
  cases s with
  | exg => exact ⟨⟨p, _, _, rfl, .inr ⟨by decide +kernel, rfl⟩⟩, rfl⟩
  | exn => exact ⟨⟨p, _, _, rfl, .inr ⟨by decide +kernel, rfl⟩⟩, rfl⟩
  | intro x =>
    have e : recD (pairD p (Sc.d (.intro x))) = [] := by
      show (if ("intro" : Str) = "recall" then [x] else []) = []
      rw [if_neg (by decide +kernel)]
    exact ⟨⟨p, _, _, rfl, .inr ⟨show ¬ ("intro" : Str) = "recall" by decide +kernel, e⟩⟩, e⟩
  | recall x =>
    have e : recD (pairD p (Sc.d (.recall x))) = [x] := by
      show (if ("recall" : Str) = "recall" then [x] else []) = [x]
      rw [if_pos rfl]
    exact ⟨⟨p, _, _, rfl, .inl ⟨x, rfl, rfl, e⟩⟩, e⟩
theorem try_pair (p : List Int) (a : List PyData) : PairOk (pairD p (.tuple [.str "try", .list a])) ∧ recD (pairD p (.tuple [.str "try", .list a])) = [] :=
  ⟨⟨p, _, _, rfl, .inr ⟨by decide +kernel, rfl⟩⟩, rfl⟩
theorem tryT_pair (p : List Int) (a : List PyData) : PairOk (pairD p (.tuple [.str "try", .tuple a])) ∧ recD (pairD p (.tuple [.str "try", .tuple a])) = [] :=
  ⟨⟨p, _, _, rfl, .inr ⟨by decide +kernel, rfl⟩⟩, rfl⟩
theorem pairsC_ok (p : List Int) : ∀ (i : Int) (cs : List Cm), (∀ e ∈ pairsC p i cs, PairOk e) ∧ (pairsC p i cs).flatMap recD = recs cs
  | _, [] => ⟨fun _ h => (List.not_mem_nil h).elim, rfl⟩
  | i, .one s :: r => by
    obtain ⟨h1, h2⟩ := pairsC_ok p (i + 1) r
    obtain ⟨a1, a2⟩ := sc_pair (p ++ [i]) s
    refine ⟨fun e he => (List.mem_cons.mp he).elim (fun z => z ▸ a1) (h1 e), ?_⟩
    show (pairD (p ++ [i]) s.d :: pairsC p (i + 1) r).flatMap recD = s.rcl ++ recs r
    rw [List.flatMap_cons, h2, a2]
  | i, .att s :: r => by
    obtain ⟨h1, h2⟩ := pairsC_ok p (i + 1) r
    obtain ⟨a1, a2⟩ := sc_pair (p ++ [i] ++ [0] ++ [0]) s
    obtain ⟨b1, b2⟩ := tryT_pair (p ++ [i]) [s.d]
    refine ⟨fun e he => (List.mem_cons.mp he).elim (fun z => z ▸ b1) fun he => (List.mem_cons.mp he).elim (fun z => z ▸ a1) (h1 e), ?_⟩
    show (pairD (p ++ [i]) (.tuple [.str "try", .tuple [s.d]]) :: pairD (p ++ [i] ++ [0] ++ [0]) s.d :: pairsC p (i + 1) r).flatMap recD = s.rcl ++ recs r
    rw [List.flatMap_cons, List.flatMap_cons, h2, a2, b2]
    rfl
theorem keys_put {acc : List Str} {x : Str} {v : V} {kvs : List (Key × V)} (e : kvs.map (·.1) = acc.map Sum.inr) : (putK kvs (Sum.inr x) v).map (·.1) = (add1 acc x).map Sum.inr := by
  have iff : x ∈ acc ↔ (kvs.any fun kv => decide (kv.1 = Sum.inr x)) = true := by
    rw [List.any_eq_true]
    refine ⟨fun h => ?_, fun ⟨kv, hm, q⟩ => ?_⟩
    · have : (Sum.inr x : Key) ∈ kvs.map (·.1) := by
        rw [e]
        exact List.mem_map.mpr ⟨x, h, rfl⟩
      obtain ⟨kv, hm, q⟩ := List.mem_map.mp this
      exact ⟨kv, hm, decide_eq_true q⟩
    · have : (Sum.inr x : Key) ∈ kvs.map (·.1) := List.mem_map.mpr ⟨kv, hm, of_decide_eq_true q⟩
      rw [e] at this
      obtain ⟨y, hy, q⟩ := List.mem_map.mp this
      exact Sum.inr.inj q ▸ hy
  unfold putK add1
  by_cases h : x ∈ acc
  · rw [if_pos (iff.mp h), if_pos h, List.map_map, ← e]
    refine List.map_congr_left fun p _ => ?_
    show (if p.1 = Sum.inr x then (p.1, v) else p).1 = p.1
    split <;> rfl
  · rw [if_neg fun z => h (iff.mpr z), if_neg h, List.map_append, List.map_append, e]
    rfl
/-- recalled() -/
def spRecalled (c : Cs) : Sp := fun vs H Q _ => ∃ (Mu : Mut1) (v : V) (cs : List Cm), vs = [v] ∧ Wl Mu H ∧ Scr c Mu H v cs ∧ (∀ d ∈ cs, d.ok) ∧ cs.length ≤ 8 ∧ ∀ p H', Same H H' → Dat Mu H' (.ref p) (.list ((uniq (recs cs)).map PyData.str)) → H p = none → Q (.ref p) H'
theorem recs_len8 : ∀ cs : List Cm, (recs cs).length ≤ cs.length
  | [] => Nat.le_refl _
  | c :: r => by
    unfold recs
    rw [List.flatMap_cons, List.length_append, List.length_cons]
    have h1 := recs_len8 r
    unfold recs at h1
    have h2 : c.rcl.length ≤ 1 := by
      unfold Cm.rcl
      cases c.s <;> simp [Sc.rcl]
    omega
section
variable {P : Program} {w : World} {K : PySem.W.Frag} {mg : Str → Option Value} {base : Heap} {c : Cs}
theorem sc_Script_recalled : FnScope ["self", "path", "command", "names", "name"] ["self"] (defScope s_Script_recalled) := ⟨rfl, rfl, rfl, by decide +kernel, rfl, by decide +kernel, by decide +kernel⟩
theorem ok_Script_recalled (T : Txt w K mg c) : MDef P w K mg base CX0 c.Script "recalled" ["self"] 4 (spRecalled c) := by
  refine T.m_Script_recalled.def_ T.c_Script.cl sc_Script_recalled (fun vs H Q E ⟨_, _, _, e, _⟩ => by rw [e]; rfl) (fun _ _ _ _ _ _ us hl => match us, hl with | [_], _ => rfl) fun f cdv A outer s H vs Q E hr h => ?_
  obtain ⟨Mu, v, cs, rfl, wl, ⟨t, u, ⟨ai, dx, rfl, mi, hi⟩, dt, du⟩, ok, hl, q⟩ := h
  refine ⟨_, PSs.nox (pss_cons (ps_setLcG (i := 3) (own := [("path", 1), ("command", 2)]) (g := gTup K 2 (gCons (gName 1) (gCons (gName 2) gNil))) rfl hr.depth sc_Script_recalled.nd rfl rfl (sw_true rfl rfl rfl (by decide +kernel)) (pgw_walk (pv 0) T.c_Script.cl T.m_Script_walk T.f_Script_whole hr) (blkOk_by (N := ["self", "path", "command", "names", "name"]) (sc := (defScope s_Script_recalled)) (by decide +kernel)) (fun _ _ _ _ _ => (pg_tup rfl (pgs_cons (pg_name (i := 1) sc_Script_recalled.nd rfl (Or.inl rfl)) (pgs_cons (pg_name (i := 2) sc_Script_recalled.nd rfl (Or.inl rfl)) pgs_nil)))) (fun _ _ _ _ _ => (pts_one (pt_cmpR op_eqC (pe_ix ix_dat (pv 2) pe_int (fun _ _ => rfl)) pe_str (nomark _)))) (fun _ _ _ _ _ => (pe_ix ix_dat (pv 2) pe_int (fun _ _ => rfl))))
      (pss_one (ps_ret (pe_callTy (call_listD rfl) (by rfl) T.n_list bb_list (pa_cons (pe_dc (own := [("name", 4)]) (tk := tVar 4) (tv := tC (.bl true)) rfl sc_Script_recalled.nd (pi_list (pv 3)) (blkOk_by (N := ["self", "path", "command", "names", "name"]) (sc := (defScope s_Script_recalled)) (by decide +kernel)) (fun _ _ _ _ _ => (pg_name (i := 4) sc_Script_recalled.nd rfl (Or.inl rfl))) (fun _ _ _ _ _ => pts_nil) (fun _ _ _ _ _ => (pv 4)) (fun _ _ _ _ _ => pe_bl)) pa_nil))))), ?_⟩
  obtain ⟨ta, xs, rfl, mt, ht, r2⟩ := du.asTup
  obtain ⟨pok, pre⟩ := pairsC_ok [] 0 cs
  have lx : xs.length ≤ 16 := by
    rw [r2.length]
    have := pairsC_len [] 0 cs
    omega
  refine ⟨_, rfl, ai, dx, _, ta, xs, rfl, hi, rfl, rfl, ht, fun D hD => ?_⟩
  have nD : ta ≠ D := ne_of_none ht hD
  refine lc_dat (n := xs.length) walk_gen (Mc := fun _ => False) (Mu := Mu) (fun _ z => z.elim) wl hD (by omega) (fun i => (((pairsC [] 0 cs).take i).flatMap recD).map PyData.str) rfl (fun _ _ => True) trivial (fun _ _ _ _ => trivial) (fun i H k _ => k.at_ _ _ (fun z => z.elim (fun z => z) nD) ht) ?_ ?_
  · rintro i x Hj' Hj add skip hi kj wlj hDj - ⟨rfl, hx⟩ ha hs
    obtain ⟨e, he, de⟩ := r2.get hx
    obtain ⟨pp, ww, aa, rfl, alt⟩ := (pok e (List.mem_of_getElem? he)).ex
    have g : ∀ b, wi Mu D b → Mu b ∨ H b = none := fun b m => m.imp id fun e => by rw [show b = D from e]; exact hD
    have dj : Dat (wi Mu D) Hj x (pairD pp (.tuple [.str ww, aa])) := (de.grow g).keep (kj.wide fun b m => m.elim (fun z => z.elim) .inr)
    obtain ⟨a3, ys, rfl, m3, h3, r3⟩ := dj.asTup
    obtain ⟨y1, y2, rfl⟩ : ∃ y1 y2, ys = [y1, y2] := by
      match ys, r3.length with
      | [y1, y2], _ => exact ⟨y1, y2, rfl⟩
    have dcmd : Dat (wi Mu D) Hj y2 (.tuple [.str ww, aa]) := by
      cases r3 with
      | cons _ t =>
        cases t with
        | cons h _ => exact h
    have et : (((pairsC [] 0 cs).take (i + 1)).flatMap recD) = (((pairsC [] 0 cs).take i).flatMap recD) ++ recD (pairD pp (.tuple [.str ww, aa])) := by
      rw [take_succ he, List.flatMap_append]
      simp
    refine ⟨a3, _, rfl, SqT.of h3, rfl, _, _, rfl, _, _, rfl, rfl, rfl, ?_⟩
    refine ⟨_, rfl, wi Mu D, _, _, 0, dcmd, rfl, rfl, fun z1 dz1 => ?_⟩
    obtain rfl := dz1.asStr
    rcases alt with ⟨x0, rfl, rfl, er⟩ | ⟨nw, er⟩
    · refine ⟨rfl, fun _ => ⟨_, rfl, iteT ⟨_, rfl, wi Mu D, _, _, 1, dcmd, rfl, rfl, fun z2 dz2 => ?_⟩⟩, fun z => absurd rfl z⟩
      exact ha z2 Hj (.str x0) (.refl _) rfl dz2 (by rw [et, er, List.map_append]; rfl) trivial
    · refine ⟨rfl, fun z => absurd (by injection z) nw, fun _ => ⟨_, rfl, iteF (hs Hj (.refl _) rfl (by rw [et, er, List.append_nil]) trivial)⟩⟩
  · rintro H3 ys k3 hy r3 - mD
    have s3 : Same H H3 := k3.same fun _ z => z
    rw [r2.length, List.take_length, pre] at r3
    have ey := dats_strs_eq r3
    subst ey
    have l8 : (recs cs).length ≤ 8 := Nat.le_trans (recs_len8 cs) hl
    refine ⟨_, rfl, D, rfl, ⟨_, SqL.of hy⟩, fun F hF => ?_⟩
    have nFD : D ≠ F := ne_of_none hy hF
    refine dc_it walk_list (fun i Hc => ∃ kvs, Kp (fun b => b = F) (upd H3 F (.dK [])) Hc ∧ Hc F = some (.dK kvs) ∧ kvs.map (·.1) = (uniq ((recs cs).take i)).map Sum.inr) ⟨[], .refl _, upd_same, rfl⟩ (fun i Hc ⟨_, k2, _, _⟩ => SqL.of (k2.at_ _ _ nFD (by rw [upd_ne nFD]; exact hy))) ?_ ?_
    · rintro i x0 Hc Hc' hi ⟨kvs, k2, hF2, ek⟩ ⟨rfl, hx⟩
      obtain ⟨y, hy2, rfl⟩ := map_at hx
      refine ⟨rfl, ?_⟩
      refine ⟨_, rfl, kvs, Sum.inr y, rfl, hF2, ?_, _, k2.trans (kp_upd rfl), upd_same, ?_⟩
      · have := congrArg List.length ek
        rw [List.length_map, List.length_map] at this
        have h2 := len_fold ((recs cs).take i) []
        rw [List.length_take] at h2
        rw [this]
        exact Nat.lt_of_le_of_lt (Nat.le_trans h2 (by simp; omega : _ ≤ 8)) (by decide)
      · rw [keys_put ek, uniq_take hy2]
    · rintro Hc ⟨kvs, k2, hF2, ek⟩
      rw [List.length_map, List.take_length] at ek
      have sC : Same H3 Hc := fun b o eb => k2.at_ b o (ne_of_none eb hF) (by rw [upd_ne (ne_of_none eb hF)]; exact eb)
      refine ⟨F, kvs, rfl, .inl hF2, fun p np => ?_⟩
      have e : kvs.map (fun kv => kV kv.1) = (uniq (recs cs)).map V.str := by
        have := congrArg (List.map kV) ek
        rw [List.map_map, List.map_map] at this
        exact this
      rw [e]
      have sA := (s3.trans sC).trans (same_new (o := .lst ((uniq (recs cs)).map V.str)) np)
      exact q p _ sA (.lst ((wl.same (s3.trans sC)).new np) upd_same (dats_strs _)) ((s3.trans sC).free np)
end
end AG
namespace AG
open PySem PySem.Spec PyProof.Rows L2
section
variable {P : Program} {w : World} {K : PySem.W.Frag} {mg : Str → Option Value} {base : Heap} {c : Cs}
theorem kp_at {H : Hp} {d : Addr} {o : HO} : Kp (fun b => b = d) H (upd H d o) := kp_upd rfl
/-- the lock is taken off -/
theorem unlock_same {H H' : Hp} {d : Addr} {u : HO} (h : H d = some u) (k : Kp (fun b => b = d) H H') : Same H (upd H' d u) := fun b o e => by
  by_cases z : b = d
  · rw [z, upd_same, ← h, ← z]
    exact e
  · rw [upd_ne z]
    exact k.at_ b o z e
theorem dgetV {H : Hp} {d : Addr} {kvs : List (Key × V)} {x : Str} {v : V} (h : Rd H d (.dK kvs)) (e : valV kvs (Sum.inr x) = some v) : DGet H d (.str x) (some v) := by
  rw [← e]
  exact dgetE h x
theorem KvE.get {Mu : Mut1} {H : Hp} {kvs : List (Key × V)} {es : List Ent} {x : Str} {e : Ent} (h : KvE c Mu H kvs es) (he : ent? es x = some e) : ∃ v, valV kvs (Sum.inr x) = some v ∧ EntV c Mu H v e := by
  rcases h.val x with ⟨v, e', h1, h2, h3⟩ | ⟨_, h2⟩
  · rw [he] at h2
    cases h2
    exact ⟨v, h1, h3⟩
  · rw [he] at h2
    cases h2
theorem ent_at : ∀ {es : List Ent} {i : Nat} {e : Ent}, (names es).Nodup → es[i]? = some e → ent? es e.name = some e
  | [], _, _, _, h => by simp at h
  | a :: r, 0, e, _, h => by
    cases h
    unfold ent?
    rw [List.find?_cons, decide_eq_true rfl]
  | a :: r, i + 1, e, nd, h => by
    have nd := List.nodup_cons.mp nd
    have h : r[i]? = some e := h
    have ih := ent_at nd.2 h
    have ne : a.name ≠ e.name := fun z => nd.1 (by rw [z]; exact List.mem_map.mpr ⟨e, List.mem_of_getElem? h, rfl⟩)
    unfold ent?
    rw [List.find?_cons, decide_eq_false ne]
    exact ih
/-! ### users_in -/
def usesB (x : Str) (e : Ent) : Bool := decide (x ∈ e.rcl)
noncomputable def users (es : List Ent) (x : Str) : List Str := srt ((es.filter (usesB x)).map Ent.name)
theorem inV_strs (x : Str) : ∀ xs : List Str, inV (.str x) (xs.map V.str) = decide (x ∈ xs)
  | [] => rfl
  | y :: r => by
    have ih : (r.map V.str).any (fun z => eqV z (.str x)) = decide (x ∈ r) := inV_strs x r
    show ((y == x) || (r.map V.str).any (fun z => eqV z (.str x))) = _
    rw [ih]
    by_cases e : y = x
    · subst e
      simp
    · rw [beq_eq_false_iff_ne.mpr e, Bool.false_or]
      congr 1
      rw [List.mem_cons]
      exact propext ⟨.inr, fun z => z.elim (fun z => absurd z.symm e) id⟩
theorem flat_strs : ∀ xs : List Str, (xs.map V.str).all flatV = true
  | [] => rfl
  | y :: r => by
    rw [List.map_cons, List.all_cons, flat_strs r]
    rfl
def spUsers (c : Cs) : Sp := fun vs H Q _ => ∃ (Mu : Mut1) (d : Addr) (es : List Ent) (x : Str), vs = [.ref d, .str x] ∧ Wl Mu H ∧ Cont c Mu H d es ∧ (∀ e ∈ es, EntOk e) ∧ (names es).Nodup ∧ es.length ≤ 8 ∧ ∀ p H', Same H H' → Dat Mu H' (.ref p) (.list ((users es x).map PyData.str)) → H p = none → Q (.ref p) H'
theorem sc_users_in : FnScope ["content", "name", "key"] ["content", "name"] (defScope s_users_in) := ⟨rfl, rfl, rfl, by decide +kernel, rfl, by decide +kernel, by decide +kernel⟩
theorem ok_users_in (T : Txt w K mg c) : Def P w K mg base CX0 "users_in" ["content", "name"] 5 (spUsers c) := by
  refine T.d_users_in.def_ sc_users_in (fun vs H Q E ⟨_, _, _, _, e, _⟩ => by rw [e]; rfl) (fun _ _ _ _ _ _ us hl => match us, hl with | [_, _], _ => rfl) fun f cdv A outer s H vs Q E hr h => ?_
  obtain ⟨Mu, d, es, x, rfl, wl, ⟨md, kvs, hd, re⟩, ok, nd, hl, q⟩ := h
  have hu := hu_of hr
  refine ⟨_, PSs.nox (pss_one (ps_ret (pe_callB cr_sortedS (by rfl) T.n_sorted (by decide +kernel) (pa_cons (pe_lock (pe_lc (own := [("key", 2)]) (tt := tTest (tOp (rInC K false) (tVar 1) (tMeth c.Script "recalled" (spRecalled c) [] E0 (tOp (rIxT K) (tDGet (tVar 0) (tVar 2)) (tC (.int 2))) tNil))) rfl sc_users_in.nd (pi_keys (pv 0)) (blkOk_by (N := ["content", "name", "key"]) (sc := (defScope s_users_in)) (by decide +kernel)) (fun _ _ _ _ _ => (pg_name (i := 2) sc_users_in.nd rfl (Or.inl rfl))) (fun _ _ _ _ _ => (pts_one (pt_cmpR op_inC (pv 1) (mcall0 (ok_Script_recalled T) hr (by decide) pass0 (pe_ix ix_tup (pe_dget hu (pv 0) (pv 2) (fun _ _ => rfl)) pe_int (fun _ _ => rfl))) rfl))) (fun _ _ _ _ _ => (pv 2)))) pa_nil)))), ?_⟩
  refine ⟨d, _, hd, trivial, fun od => ?_⟩
  have kL : Kp (fun b => b = d) H (upd H d (.frz od (.dK kvs))) := kp_at
  have g2 : ∀ b, wi Mu d b → Mu b ∨ Other (H b) := fun b m => m.imp id fun e => by rw [e, hd]; exact other_dK
  have reL : KvE c (wi Mu d) (upd H d (.frz od (.dK kvs))) kvs es := (re.grow2 g2).keep (kL.wide fun b m => .inr m)
  have wlL : Wl (wi Mu d) (upd H d (.frz od (.dK kvs))) := (wl.kp kL).wi (by rw [upd_same]; exact fun z => by cases z)
  have hL : upd H d (.frz od (.dK kvs)) d = some (.frz od (.dK kvs)) := upd_same
  generalize upd H d (.frz od (.dK kvs)) = HL at kL reL wlL hL ⊢
  refine ⟨_, rfl, d, od, rfl, .inl ⟨kvs, hL, fun D hD => ?_⟩⟩
  refine lc_dat walk_keys (Mc := fun _ => False) (Mu := wi Mu d) (fun _ z => z.elim) wlL hD (by rw [re.len]; omega) (fun i => (((es.take i).filter (usesB x)).map Ent.name).map PyData.str) rfl (fun _ _ => True) trivial (fun _ _ _ _ => trivial) (fun i H0 k0 _ => k0.at_ _ _ (fun z => z.elim (fun z => z) (ne_of_none hL hD)) hL) ?_ ?_
  · rintro i v0 H0 H0' add skip hi k0 wl0 hD0 - ⟨rfl, k, v, hkv, rfl⟩ ha' hskip
    refine ⟨rfl, ?_⟩
    obtain ⟨e, he, rfl, _⟩ := re.at_ hkv
    obtain ⟨v, hv, ev⟩ := reL.get (ent_at nd he)
    have okE := ok e (List.mem_of_getElem? he)
    have hd0 : H0' d = some (.frz od (.dK kvs)) := k0.at_ _ _ (fun z => z.elim (fun z => z) (ne_of_none hL hD)) hL
    have k1 : Kp (wi (wi Mu d) D) HL H0' := k0.wide fun b m => m.elim (fun z => z.elim) .inr
    have evD : EntV c (wi (wi Mu d) D) H0' v e := (ev.grow2 fun b m => m.imp id fun m => by rw [m, hD]; exact other_none).keep k1
    obtain ⟨a, kx, g, sx, rfl, ma, ha, _, _, hsx⟩ := evD
    have hsx0 := hsx
    obtain ⟨t, u, ⟨as, dx, rfl, ms, hs⟩, _, _⟩ := hsx
    have okr : (uniq (recs e.cmds)).map PyData.str = e.rcl.map PyData.str := rfl
    refine ⟨_, rfl, _, rfl, _, rfl, d, _, rfl, dgetV (.inr ⟨od, hd0⟩) hv, a, _, _, _, rfl, rfl, SqT.of ha, rfl, as, dx, _, rfl, hs, rfl, wi (wi Mu d) D, .ref as, e.cmds, rfl, wl0, hsx0, okE.co, okE.cl, fun p H1 s1 d1 n1 => ?_⟩
    · obtain ⟨_, xs, e1, m1, h1, r1⟩ := d1.asLst
      cases e1
      have e2 := dats_strs_eq r1
      subst e2
      have et : es.take (i + 1) = es.take i ++ [e] := take_succ he
      refine ⟨p, _, rfl, .inl (SqL.of h1), rfl, flat_strs _, fun z => ⟨_, rfl, iteT ⟨_, rfl, ha' _ H1 (.str e.name) (.of s1) (same_at s1 hD0) (.str _) ?_ trivial⟩⟩, fun z => ⟨_, rfl, iteF (hskip H1 (.of s1) (same_at s1 hD0) ?_ trivial)⟩⟩
      · rw [inV_strs] at z
        rw [et, List.filter_append, List.filter_cons_of_pos (show usesB x e = true from z)]
        simp
      · rw [inV_strs] at z
        rw [et, List.filter_append, List.filter_cons_of_neg (show ¬ usesB x e = true by rw [show usesB x e = false from z]; decide)]
        simp
  · intro H0 xs k0 hx r _ mD
    have hd0 : H0 d = some (.frz od (.dK kvs)) := k0.at_ _ _ (fun z => z) hL
    have kk : Kp (fun b => b = d) H H0 := kL.trans (k0.wide fun _ z => z.elim)
    have sU := unlock_same hd kk
    have nD : D ≠ d := fun z => by
      rw [z, hL] at hD
      cases hD
    rw [re.len, List.take_length] at r
    have e2 := dats_strs_eq r
    subst e2
    refine ⟨hd0, D, _, rfl, SqL.of (by rw [upd_ne nD]; exact hx), ?_, fun ys p ps ss np => ?_⟩
    · rw [List.length_map]
      exact Nat.lt_of_le_of_lt (List.length_filter_le _ _) (by omega)
    · have e3 : ys = users es x := srt_eq ps ss
      subst e3
      have sF := sU.trans (same_new (o := .lst ((users es x).map V.str)) np)
      exact q p _ sF (.lst ((wl.same sU).new np) upd_same (dats_strs _)) (sU.free np)
end
end AG
namespace AG
open PySem PySem.Spec PyProof.Rows L2
section
variable {P : Program} {w : World} {K : PySem.W.Frag} {mg : Str → Option Value} {base : Heap} {c : Cs}
/-! ### rests_on -/
def fkv (f : List Str) : List (Key × V) := f.map fun x => (Sum.inr x, V.bl true)
theorem fkv_val (x : Str) : ∀ f : List Str, (valV (fkv f) (Sum.inr x)).isSome = decide (x ∈ f)
  | [] => rfl
  | y :: r => by
    by_cases e : y = x
    · subst e
      rw [show valV (fkv (y :: r)) (Sum.inr y) = some (V.bl true) from valV_pos (r := fkv r) rfl]
      simp
    · rw [show valV (fkv (y :: r)) (Sum.inr x) = valV (fkv r) (Sum.inr x) from valV_neg (r := fkv r) fun z => e (Sum.inr.inj z), fkv_val x r]
      congr 1
      rw [List.mem_cons]
      exact propext ⟨.inr, fun z => z.elim (fun z => absurd z.symm e) id⟩
theorem fkv_put {f : List Str} {x : Str} (h : x ∉ f) : putK (fkv f) (Sum.inr x) (.bl true) = fkv (f ++ [x]) := by
  rw [putK_new]
  · unfold fkv
    rw [List.map_append]
    rfl
  · have := fkv_val x f
    rw [decide_eq_false h] at this
    cases e : valV (fkv f) (Sum.inr x) with
    | none => rfl
    | some v =>
      rw [e] at this
      cases this
theorem fold_fnd {es : List Ent} : ∀ {xs : List Str} {a : List Str × List Str}, Fnd es a.1 a.2 → Fnd es (xs.foldl (step es) a).1 (xs.foldl (step es) a).2
  | [], _, h => h
  | x :: r, a, h => fold_fnd (xs := r) (h.step x)
theorem fold_meas {es : List Ent} : ∀ {xs : List Str} {a : List Str × List Str}, (xs.foldl (step es) a).2.length + a.1.length = a.2.length + (xs.foldl (step es) a).1.length
  | [], _ => rfl
  | x :: r, a => by
    have h1 := fold_meas (es := es) (xs := r) (a := step es a x)
    have h2 := step_meas (es := es) (a := a) x
    rw [List.foldl_cons]
    omega
def spRests (c : Cs) : Sp := fun vs H Q _ => ∃ (Mu : Mut1) (d : Addr) (es : List Ent) (x : Str), vs = [.ref d, .str x] ∧ Wl Mu H ∧ Cont c Mu H d es ∧ (∀ e ∈ es, EntOk e) ∧ es.length ≤ 8 ∧ has es x ∧ ∀ p H', Same H H' → Dat Mu H' (.ref p) (.list ((rests es x).map PyData.str)) → H p = none → Q (.ref p) H'
theorem sc_rests_on : FnScope ["content", "name", "found", "waiting", "late"] ["content", "name"] (defScope s_rests_on) := ⟨rfl, rfl, rfl, by decide +kernel, rfl, by decide +kernel, by decide +kernel⟩
/-- found, waiting in the heap -/
structure FW (H : Hp) (F W : Addr) (a : List Str × List Str) : Prop where
  f : H F = some (.dK (fkv a.1))
  w : H W = some (.lst (a.2.map V.str))
theorem strs_lay {n : Nat} {xs : List Str} (h : ∀ x ∈ xs, NameOk x) : Lay (n + 1) (.list (xs.map PyData.str)) := Lays.lst (Lays.map fun x hx => (h x hx).lay)
theorem eqv_nil (xs : List PyData) : PyData.eqv (.list xs) (.list []) = xs.isEmpty := by
  cases xs <;> rfl
theorem has_ok {es : List Ent} (ok : ∀ e ∈ es, EntOk e) {x : Str} (h : has es x) : NameOk x := by
  obtain ⟨e, _, he, rfl⟩ := ent_some h
  exact (ok e he).nm
theorem go_nil {es : List Ent} {n : Nat} {f : List Str} : go es n (f, []) = f := by
  cases n <;> rfl
theorem go_step {es : List Ent} {n : Nat} {f w : List Str} {y : Str} : go es (n + 1) (f, w ++ [y]) = go es n ((rclOf es y).foldl (step es) (f, w)) := by
  rw [show go es (n + 1) (f, w ++ [y]) = (match (w ++ [y]).getLast? with
    | none => f
    | some x => go es n ((rclOf es x).foldl (step es) (f, (w ++ [y]).dropLast))) from rfl, List.getLast?_concat, List.dropLast_concat]
theorem fkv_keys (f : List Str) : (fkv f).map (fun kv => kV kv.1) = f.map V.str := by
  unfold fkv
  rw [List.map_map]
  rfl
theorem ok_rests_on (T : Txt w K mg c) : Def P w K mg base CX0 "rests_on" ["content", "name"] 5 (spRests c) := by
  refine T.d_rests_on.def_ sc_rests_on (fun vs H Q E ⟨_, _, _, _, e, _⟩ => by rw [e]; rfl) (fun _ _ _ _ _ _ us hl => match us, hl with | [_, _], _ => rfl) fun f cdv A outer s H vs Q E hr h => ?_
  obtain ⟨Mu, d, es, x, rfl, wl, ct, ok, hl, hx, q⟩ := h
  have hu := hu_of hr
  refine ⟨_, PSs.nox (pss_cons (ps_par (i := 2) (j := 3) rfl sc_rests_on.nd rfl rfl (by decide) rfl rfl (pa_cons pe_dnewK (pa_cons (pe_lst (pa_cons (pv 1) pa_nil)) pa_nil)) rfl)
      (pss_cons (ps_while PassesOwn.never (pt_cmpR (op_neD hr.units) (pv 3) (pe_lst pa_nil) (nomark _)) (pss_one (ps_for PassesOwn.never rfl (pi_list (mcall0 (ok_Script_recalled T) hr (by decide) pass0 (pe_ix ix_tup (pe_dget hu (pv 0) (pe_bm0 PySem.F.plainAttrs_list PySem.F.slot_list_pop PySem.F.type_list_pop mt_pop (pv 3)) (fun _ _ => rfl)) pe_int (fun _ _ => rfl)))) (pg_name (i := 4) sc_rests_on.nd rfl (Or.inl rfl)) (pss_one (ps_if (PW.pt (pw_and (pt_cmp (pc_din hu (pv 4) (pv 0))) (pw_and1 (pt_cmp (pc_dnotin hu (pv 4) (pv 2)))))) (pss_cons (ps_dput hu (pv 2) (pv 4) pe_bl rfl)
      (pss_one (ps_expr (pe_bm PySem.F.plainAttrs_list PySem.F.slot_list_append PySem.F.type_list_append mt_append (pv 3) (pa_cons (pv 4) pa_nil))))) pss_nil)))))
      (pss_one (ps_ret (pe_callB cr_sortedS (by rfl) T.n_sorted (by decide +kernel) (pa_cons (pe_callTy (call_listD rfl) (by rfl) T.n_list bb_list (pa_cons (pv 2) pa_nil)) pa_nil)))))), ?_⟩
  obtain ⟨md, kvs, hd, re⟩ := ct
  refine fun F hF => ⟨_, rfl, (by show 1 ≤ sizeLine; decide), fun W hW => ⟨_, _, rfl, ?_⟩⟩
  have s2 : Same H (upd (upd H F (.dK [])) W (.lst [V.str x])) := (same_new hF).trans (same_new hW)
  have neFW : F ≠ W := ne_of_none upd_same hW
  have hW0 : H W = none := by
    rw [upd_ne (Ne.symm neFW)] at hW
    exact hW
  have fw0 : FW (upd (upd H F (.dK [])) W (.lst [V.str x])) F W ([], [x]) := ⟨by rw [upd_ne neFW]; exact upd_same, upd_same⟩
  generalize upd (upd H F (.dK [])) W (.lst [V.str x]) = H2 at s2 fw0 ⊢
  have hdF : d ≠ F := ne_of_none hd hF
  have hdW : d ≠ W := ne_of_none hd hW0
  have rd2 : ∀ Hk, Kp (fun b => b = F ∨ b = W) H2 Hk → Hk d = some (.dK kvs) := fun Hk k => k.at_ _ _ (fun z => z.elim hdF hdW) (s2 _ _ hd)
  have reF : KvE c (fun b => Mu b ∨ b = F ∨ b = W) H kvs es := re.grow2 fun b m => m.imp id fun m => m.elim (fun m => by rw [m, hF]; exact other_none) fun m => by rw [m, hW0]; exact other_none
  refine ⟨fun n σ Hk => ∃ a x4, n ≤ 9 ∧ σ = [some (V.ref d), some (V.str x), some (V.ref F), some (V.ref W), x4] ∧ FW Hk F W a ∧ Kp (fun b => b = F ∨ b = W) H2 Hk ∧ Fnd es a.1 a.2 ∧ a.2.length + (es.length - a.1.length) ≤ n ∧ go es n a = go es (es.length + 1) ([], [x]), ⟨es.length + 1, ([], [x]), none, Nat.succ_le_succ hl, rfl, fw0, .refl _, ⟨.nil, fun y hy => (List.not_mem_nil hy).elim, fun y hy => by rw [List.mem_singleton.mp hy]; exact hx⟩, by simp; omega, rfl⟩, ?_⟩
  rintro n σ Hk ⟨⟨f, w⟩, x4, n9, rfl, fw, kk, fnd, me, ge⟩
  have nmW : ∀ y ∈ w, NameOk y := fun y hy => has_ok ok (fnd.wai y hy)
  refine ⟨_, rfl, Nat.zero_le _, fun p np => ⟨.list (w.map PyData.str), .list [], ?_, .lst (SqL.of upd_same) .nil, (strs_lay (n := 0) nmW).shaped, by decide +kernel, _, rfl, ?_⟩⟩
  · exact .lst (SqL.of (same_new np _ _ fw.w)) (Dats.dp (Mu := fun _ => False) (dats_strs _))
  have s3 : Same Hk (upd Hk p (.lst [])) := same_new np
  have fw3 : FW (upd Hk p (.lst [])) F W (f, w) := ⟨s3 _ _ fw.f, s3 _ _ fw.w⟩
  generalize upd Hk p (.lst []) = H3 at s3 fw3 ⊢
  have kk3 : Kp (fun b => b = F ∨ b = W) H2 H3 := kk.trans (.of s3)
  rw [eqv_nil]
  rcases List.eq_nil_or_concat w with e0 | ⟨w', y, e0⟩
  · subst e0
    refine iteF ⟨_, rfl, F, fkv f, rfl, .inl fw3.f, fun p4 n4 => ⟨p4, f, rfl, SqL.of (by rw [upd_same, fkv_keys]), ?_, fun ys p5 ps ss n5 => ?_⟩⟩
    · have := fnd.len
      show f.length < 64
      simp only at this
      omega
    · have e3 : ys = rests es x := by
        rw [srt_eq ps ss]
        unfold rests
        rw [← ge, go_nil]
      subst e3
      have s5 : Same H3 _ := (same_new (o := .lst ((fkv f).map fun kv => kV kv.1)) n4).trans (same_new (o := .lst ((rests es x).map V.str)) n5)
      have kF : Kp (fun b => b = F ∨ b = W) H2 _ := kk3.trans (.of s5)
      have sF : Same H (upd (upd H3 p4 (.lst ((fkv f).map fun kv => kV kv.1))) p5 (.lst ((rests es x).map V.str))) := fun b o e => kF.at_ b o (fun z => z.elim (fun z => ne_of_none e hF z) fun z => ne_of_none e hW0 z) (s2 b o e)
      have n5H : H p5 = none := s2.free ((kk3.trans (.of (same_new n4))).fresh n5)
      exact q p5 _ sF (.lst (wl.new n5H) upd_same (dats_strs _)) n5H
  · have e0 : w = w' ++ [y] := by rw [e0, List.concat_eq_append]
    subst e0
    have ne : ((w' ++ [y]).map PyData.str).isEmpty = false := by simp
    rw [ne]
    refine iteT ?_
    have n0 : n ≠ 0 := fun z => by
      simp only [List.length_append, List.length_singleton] at me
      omega
    obtain ⟨n', rfl⟩ := Nat.exists_eq_succ_of_ne_zero n0
    obtain ⟨e, he, hem, hen⟩ := ent_some (fnd.wai y (by simp))
    have okE := ok e hem
    have erc : rclOf es y = e.rcl := by
      unfold rclOf
      rw [he]
    -- content[waiting.pop()][2].recalled()
    have lf := fnd.len
    simp only at lf
    have kk4 : Kp (fun b => b = F ∨ b = W) H2 (upd H3 W (.lst (w'.map V.str))) := kk3.trans (kp_upd (.inr rfl))
    have fw4 : FW (upd H3 W (.lst (w'.map V.str))) F W (f, w') := ⟨by rw [upd_ne neFW]; exact fw3.f, upd_same⟩
    have dl : ((w' ++ [y]).map V.str).dropLast = w'.map V.str := by
      rw [List.map_append]
      exact List.dropLast_concat
    have wl4 : Wl (fun b => Mu b ∨ b = F ∨ b = W) (upd H3 W (.lst (w'.map V.str))) := fun b m z => by
      rcases m with m | m | m
      · exact kk4.there b (fun z => wl b m (s2.free z)) z
      · rw [m, fw4.f] at z
        cases z
      · rw [m, fw4.w] at z
        cases z
    have re4 : KvE c (fun b => Mu b ∨ b = F ∨ b = W) (upd H3 W (.lst (w'.map V.str))) kvs es := reF.keep ((Kp.ofSame s2).trans (kk4.wide fun b m => .inr m))
    have hd4 := rd2 _ kk4
    generalize hH4 : upd H3 W (.lst (w'.map V.str)) = H4 at kk4 fw4 wl4 re4 hd4
    obtain ⟨v, hv, ev⟩ := re4.get he
    obtain ⟨av, kx, g, sx, rfl, mv, hv2, _, _, hsx⟩ := ev
    have hsx0 := hsx
    obtain ⟨t, u, ⟨as, dx, rfl, ms, hs⟩, _, _⟩ := hsx
    refine ⟨_, fun σ' H' hz => ⟨n', Nat.lt_succ_self _, hz⟩, ?_⟩
    refine ⟨_, rfl, _, rfl, .inl ⟨rfl, _, SqL.of fw3.w⟩, W, _, .str y, rfl, rfl, fw3.w, by simp, ?_⟩
    rw [dl, hH4]
    refine ⟨d, _, rfl, dgetV (.inl hd4) hv, av, _, _, _, rfl, rfl, SqT.of hv2, rfl, as, dx, _, rfl, hs, rfl, (fun b => Mu b ∨ b = F ∨ b = W), .ref as, e.cmds, rfl, wl4, hsx0, okE.co, okE.cl, fun p7 H7 s7 d7 n7 => ?_⟩
    obtain ⟨_, xs7, e7, m7, h7, r7⟩ := d7.asLst
    cases e7
    have e8 : xs7 = e.rcl.map V.str := dats_strs_eq r7
    subst e8
    have n7F : p7 ≠ F := fun z => m7 (.inr (.inl z))
    have n7W : p7 ≠ W := fun z => m7 (.inr (.inr z))
    refine ⟨p7, rfl, ⟨_, SqL.of h7⟩, ?_⟩
    refine for_it walk_list (fun i σ Hj => ∃ x4, σ = [some (V.ref d), some (V.str x), some (V.ref F), some (V.ref W), x4] ∧ FW Hj F W ((e.rcl.take i).foldl (step es) (f, w')) ∧ Kp (fun b => b = F ∨ b = W) H7 Hj) ⟨_, rfl, ⟨s7 _ _ fw4.f, s7 _ _ fw4.w⟩, .refl _⟩ (fun i σ Hj _ ⟨_, _, _, kj⟩ => SqL.of (kj.at_ _ _ (fun z => z.elim n7F n7W) h7)) ?_ ?_
    · rintro i x0 σ Hj Hj' hi ⟨x4, rfl, fwj, kj⟩ ⟨rfl, hx0⟩
      obtain ⟨z, hz, rfl⟩ := map_at hx0
      have et : e.rcl.take (i + 1) = e.rcl.take i ++ [z] := take_succ hz
      have fs : (e.rcl.take (i + 1)).foldl (step es) (f, w') = step es ((e.rcl.take i).foldl (step es) (f, w')) z := by
        rw [et, List.foldl_append]
        rfl
      have fndj : Fnd es ((e.rcl.take i).foldl (step es) (f, w')).1 ((e.rcl.take i).foldl (step es) (f, w')).2 := fold_fnd (a := (f, w')) ⟨fnd.nd, fnd.sub, fun y hy => fnd.wai y (by simp [hy])⟩
      have mej := fold_meas (es := es) (xs := e.rcl.take i) (a := (f, w'))
      generalize (e.rcl.take i).foldl (step es) (f, w') = aj at fs fwj fndj mej
      obtain ⟨fj, wj⟩ := aj
      simp only at fwj fndj mej
      have ljf := fndj.len
      have hdj : Hj' d = some (.dK kvs) := kj.at_ _ _ (fun z => z.elim hdF hdW) (s7 _ _ hd4)
      have lw : wj.length ≤ 20 := by
        simp only [List.length_append, List.length_singleton] at me
        omega
      refine ⟨_, rfl, _, rfl, d, _, rfl, dgetE (.inl hdj) z, _, rfl, ?_⟩
      rw [re.has z]
      by_cases hz1 : has es z
      · rw [decide_eq_true hz1]
        refine iteT ⟨_, rfl, _, rfl, F, _, rfl, dgetE (.inl fwj.f) z, _, rfl, ?_⟩
        rw [fkv_val]
        by_cases hz2 : z ∈ fj
        · rw [decide_eq_true hz2]
          refine iteF ⟨_, rfl, ?_, kj⟩
          rw [fs]
          unfold step
          rw [if_neg (fun q => q.2 hz2)]
          exact fwj
        · rw [decide_eq_false hz2]
          refine iteT ⟨_, rfl, _, rfl, F, _, rfl, DPut.k (k := Sum.inr z) fwj.f ?_, ?_⟩
          · unfold fkv
            rw [List.length_map]
            exact Nat.lt_of_le_of_lt ljf (Nat.lt_of_le_of_lt hl (by decide))
          · rw [fkv_put hz2]
            refine ⟨_, rfl, .inl ⟨rfl, _, SqL.of (by rw [upd_ne (Ne.symm neFW)]; exact fwj.w)⟩, _, rfl, W, _, _, rfl, rfl, (by rw [upd_ne (Ne.symm neFW)]; exact fwj.w), ?_, _, rfl, ?_, ?_⟩
            · rw [List.length_map]
              exact Nat.lt_of_le_of_lt lw (by decide)
            · rw [fs]
              unfold step
              rw [if_pos ⟨hz1, hz2⟩]
              refine ⟨by rw [upd_ne neFW]; exact upd_same, ?_⟩
              rw [upd_same, List.map_append]
              rfl
            · exact (kj.trans (kp_upd (.inl rfl))).trans (kp_upd (.inr rfl))
      · rw [decide_eq_false hz1]
        refine iteF (iteF ⟨_, rfl, ?_, kj⟩)
        rw [fs]
        unfold step
        rw [if_neg (fun q => hz1 q.1)]
        exact fwj
    · rintro σ Hj ⟨x4, rfl, fwj, kj⟩
      rw [List.length_map, List.take_length] at fwj
      refine ⟨_, x4, by omega, rfl, fwj, (kk4.trans (.of s7)).trans kj, fold_fnd (a := (f, w')) ⟨fnd.nd, fnd.sub, fun y hy => fnd.wai y (by simp [hy])⟩, ?_, ?_⟩
      · have mej := fold_meas (es := es) (xs := e.rcl) (a := (f, w'))
        have ljf := (fold_fnd (es := es) (xs := e.rcl) (a := (f, w')) ⟨fnd.nd, fnd.sub, fun y hy => fnd.wai y (by simp [hy])⟩).len
        simp only [List.length_append, List.length_singleton] at me mej ljf ⊢
        omega
      · rw [← ge, go_step, erc]
end
end AG
namespace AG
open PySem PySem.Spec PyProof.Rows L2
section
variable {P : Program} {w : World} {K : PySem.W.Frag} {mg : Str → Option Value} {base : Heap} {c : Cs}
theorem Wl.wiK {Mu : Mut1} {H H' : Hp} {D : Addr} {o o' : HO} (w : Wl Mu H) (k : Kp (fun b => b = D) (upd H D o) H') (h : H' D = some o') : Wl (AG.wi Mu D) H' := fun b m z => by
  rcases m with m | m
  · refine k.there b (fun y => ?_) z
    by_cases e : b = D
    · rw [e, upd_same] at y
      cases y
    · rw [upd_ne e] at y
      exact w b m y
  · rw [m, h] at z
    cases z
/-! ### need_formula -/
def spNeedF : Sp := fun vs H Q _ => ∃ (Mu : Mut1) (v : V) (f : Fm), vs = [v] ∧ Wl Mu H ∧ Dat Mu H v f.d ∧ f.ok ∧ f.deep ≤ 3 ∧ ∀ H', Same H H' → Q .non H'
theorem sc_need_formula : FnScope ["goal"] ["goal"] (defScope s_need_formula) := ⟨rfl, rfl, rfl, by decide +kernel, rfl, by decide +kernel, by decide +kernel⟩
theorem ok_need_formula (T : Txt w K mg c) : Def P w K mg base CX0 "need_formula" ["goal"] 8 spNeedF := by
  refine T.d_need_formula.def_ sc_need_formula (fun vs H Q E ⟨_, _, _, e, _⟩ => by rw [e]; rfl) (fun _ _ _ _ _ _ us hl => match us, hl with | [_], _ => rfl) fun f cdv A outer s H vs Q E hr h => ?_
  obtain ⟨Mu, v, g, rfl, wl, dv, ok, hd, q⟩ := h
  refine ⟨_, PSs.nox (pss_one (ps_if (pt_not (pt_val (dcall (ok_is_formula T) hr (by decide) pass0 (pa_cons (pv 0) pa_nil)))) (pss_one ps_never) pss_nil)), ?_⟩
  exact ⟨_, rfl, Mu, v, g, rfl, wl, dv, ok, hd, fun H1 s1 => ⟨_, rfl, iteF (q H1 s1)⟩⟩
/-! ### Claim -/
def spClmInit (c : Cs) : Sp := fun vs H Q _ => ∃ (Mu : Mut1) (x dx df : Addr) (s k g : V) (rs : List Row) (go : Fm) (fs : List Fact), vs = [.ref x, s, k, g, .ref df] ∧ Wl Mu H ∧ Mu x ∧ H x = some (.ins c.Claim dx []) ∧ Ctx c Mu H k rs ∧ rs.length ≤ 8 ∧ Dat Mu H g go.d ∧ go.ok ∧ go.deep ≤ 3 ∧ Fcts Mu H df fs ∧
  ∀ H' d', Kp (fun b => b = x) H H' → H' x = some (.ins c.Claim dx [("own_script", s), ("own_context", k), ("own_goal", g), ("own_facts", .ref d')]) → Fcts Mu H' d' fs → Q .non H'
theorem sc_Claim___init__ : FnScope ["self", "script", "context", "goal", "facts"] ["self", "script", "context", "goal", "facts"] (defScope s_Claim___init__) := ⟨rfl, rfl, rfl, by decide +kernel, rfl, by decide +kernel, by decide +kernel⟩
theorem call_dictF {X : Cx} : CallR X (.type "dict") (fun vs H Q => ∃ a Mu fs, vs = [.ref a] ∧ Wl Mu H ∧ Fcts Mu H a fs ∧ ∀ p H', Same H H' → Fcts Mu H' p fs → H p = none → Q (.ref p) H') := callR_imp call_dictD fun xs H Q q => by
  obtain ⟨a, Mu, fs, rfl, wl, ⟨ma, kvs, ha, r⟩, q⟩ := q
  exact ⟨a, kvs, rfl, .inl ha, fun p n => q p _ (same_new n) ⟨wl.new n, kvs, upd_same, r.keep (.of (same_new n))⟩ n⟩
theorem ok_Claim (T : Txt w K mg c) : ∃ (f : Addr) (fd : FuncData) (g : List Value → List Value → List Value), Mk K c.Claim f ∧ FnOk P w K mg base CX0 9 f fd ["self", "script", "context", "goal", "facts"] (spClmInit c) ∧ KBn K fd ["self", "script", "context", "goal", "facts"] (3 + 1) ["facts"] g (fun vs zs => vs ++ zs) := by
  obtain ⟨f, fd, M, F⟩ := T.mk_Claim.ex
  obtain ⟨mv, kb⟩ := F.kbinds0 (ps := ["self", "script", "context", "goal", "facts"]) 4 ["facts"] [] (fun us _ ws => us ++ ws) (by simp) (fun q h => (List.not_mem_nil h).elim) (fun r1 _ r3 => r1.append r3)
    (fun D doc pm an cdv ct us mv ws h1 h2 h3 => match us, mv, ws, h1, h2, h3 with | [_, _, _, _], [], [_], _, _, _ => rfl)
  refine ⟨f, fd, _, M, F.ok sc_Claim___init__ (fun vs H Q E ⟨_, _, _, _, _, _, _, _, _, _, e, _⟩ => by rw [e]; rfl) (fun cdv A outer s H vs Q E hr h => ?_), kb⟩
  obtain ⟨Mu, x, dx, df, sv, k, g, rs, go, fs, rfl, wl, mx, hx, ck, hl, dg, okg, hdg, hf, q⟩ := h
  refine ⟨_, PSs.nox (pss_cons (ps_expr (dcall (ok_need_formula T) hr (by decide) pass0 (pa_cons (pv 3) pa_nil)))
      (pss_cons (ps_if (pt_cmpR op_gt (pe_callB (own_len (ok_Context___len__ T) hr (by decide)) (by rfl) T.n_len PySem.boot_len (pa_cons (pv 2) pa_nil)) (gcst T.k_MOST_OWN) (nomark _)) (pss_one ps_never) pss_nil)
      (pss_cons (ps_fld (pv 0) (pv 1) rfl)
      (pss_cons (ps_fld (pv 0) (pv 2) rfl)
      (pss_cons (ps_fld (pv 0) (pv 3) rfl)
      (pss_one (ps_fld (pv 0) (pe_ifExp (pt_cmpR op_isN (pv 4) pe_non (nomark _)) pe_dnewK (pe_callTy call_dictF (by rfl) T.n_dict bb_dict (pa_cons (pv 4) pa_nil))) rfl))))))), ?_⟩
  refine ⟨_, rfl, Mu, g, go, rfl, wl, dg, okg, hdg, fun H1 s1 => ?_⟩
  have ck1 := ck.keep (Kp.ofSame s1)
  have ck0 := ck1
  obtain ⟨t, ⟨a, da, rfl, ma, ha⟩, dt⟩ := ck1
  refine ⟨_, rfl, a, da, _, rfl, ha, Mu, .ref a, rs, rfl, ck0, ⟨⟨rs.length, Nat.lt_of_le_of_lt hl (by decide), rfl⟩, _, _, rfl, rfl, _, rfl, ?_⟩⟩
  rw [decide_eq_false (by omega)]
  refine iteF ?_
  have hx1 := s1 _ _ hx
  have hf1 : Fcts Mu H1 df fs := hf.keep (Kp.ofSame s1)
  have wl1 := wl.same s1
  have neF : df ≠ x := fun z => hf.1 (z ▸ mx)
  refine ⟨_, rfl, _, rfl, x, _, dx, _, rfl, hx1, T.c_Claim.cl, T.f_Claim_own_script, (by show 0 < 1000; decide), ?_⟩
  refine ⟨_, rfl, _, rfl, x, _, dx, _, rfl, upd_same, T.c_Claim.cl, T.f_Claim_own_context, (by show 1 < 1000; decide), ?_⟩
  refine ⟨_, rfl, _, rfl, x, _, dx, _, rfl, upd_same, T.c_Claim.cl, T.f_Claim_own_goal, (by show 2 < 1000; decide), ?_⟩
  rw [upd_upd, upd_upd]
  have k2 : Kp (fun b => b = x) H1 (upd H1 x (.ins c.Claim dx [("own_script", sv), ("own_context", .ref a), ("own_goal", g)])) := kp_upd rfl
  have m2 : Kp Mu H1 (upd H1 x (.ins c.Claim dx [("own_script", sv), ("own_context", .ref a), ("own_goal", g)])) := kp_upd mx
  have hx2 : upd H1 x (.ins c.Claim dx [("own_script", sv), ("own_context", .ref a), ("own_goal", g)]) x = some (.ins c.Claim dx [("own_script", sv), ("own_context", .ref a), ("own_goal", g)]) := upd_same
  rw [show putF ("own_goal" : Str) g (putF ("own_context" : Str) (V.ref a) (putF ("own_script" : Str) sv [])) = ([("own_script", sv), ("own_context", .ref a), ("own_goal", g)] : List (Str × V)) from rfl]
  generalize upd H1 x (.ins c.Claim dx [("own_script", sv), ("own_context", .ref a), ("own_goal", g)]) = H2 at k2 m2 hx2 ⊢
  refine ⟨_, rfl, rfl, _, rfl, iteF ⟨_, rfl, df, Mu, fs, rfl, wl1.kp m2, hf1.keep m2, fun p H3 s3 f3 n3 => ?_⟩⟩
  refine ⟨_, rfl, x, _, dx, _, rfl, s3 _ _ hx2, T.c_Claim.cl, T.f_Claim_own_facts, (by show 3 < 1000; decide), ?_⟩
  exact q _ p ((((Kp.ofSame s1).trans k2).trans (.ofSame s3)).trans (kp_upd rfl)) upd_same (f3.keep (kp_upd mx))
theorem clm_made {Mu : Mut1} {H H' : Hp} {x dx d' : Addr} {s k g : V} {e : Ent} {fs : List Fact} (wl : Wl Mu H) (nx : H x = none) (nd : H dx = none) (ne : dx ≠ x) (kp : Kp (fun b => b = x) (upd (upd H dx (.own x)) x (.ins c.Claim dx [])) H')
    (h : H' x = some (.ins c.Claim dx [("own_script", s), ("own_context", k), ("own_goal", g), ("own_facts", .ref d')])) (hs : Scr c Mu H s e.cmds) (hk : Ctx c Mu H k e.rows) (hg : Dat Mu H g e.goal.d) (f : Fcts (wi Mu x) H' d' fs) : Same H H' ∧ Clm c Mu H' (.ref x) e fs := by
  have s0 := same_ins (C := c.Claim) nx nd ne
  have sm : Same H H' := fun b o e => kp.at_ b o (ne_of_none e nx) (s0 b o e)
  exact ⟨sm, s, k, g, d', ⟨x, dx, rfl, wl.new nx, h⟩, hs.keep (.of sm), hk.keep (.of sm), hg.same sm, f.less fun b m => .inl m⟩
/-- a field of a claim -/
def spClmFld (c : Cs) (f : Str) : Sp := fun vs H Q _ => ∃ a dx fs v, vs = [.ref a] ∧ H a = some (.ins c.Claim dx fs) ∧ fs.lookup f = some v ∧ Q v H
theorem sc_Claim_script : FnScope ["self"] ["self"] (defScope s_Claim_script) := ⟨rfl, rfl, rfl, by decide +kernel, rfl, by decide +kernel, by decide +kernel⟩
theorem sc_Claim_context : FnScope ["self"] ["self"] (defScope s_Claim_context) := ⟨rfl, rfl, rfl, by decide +kernel, rfl, by decide +kernel, by decide +kernel⟩
theorem sc_Claim_goal : FnScope ["self"] ["self"] (defScope s_Claim_goal) := ⟨rfl, rfl, rfl, by decide +kernel, rfl, by decide +kernel, by decide +kernel⟩
theorem sc_Claim_facts : FnScope ["self"] ["self"] (defScope s_Claim_facts) := ⟨rfl, rfl, rfl, by decide +kernel, rfl, by decide +kernel, by decide +kernel⟩
theorem ok_Claim_script (T : Txt w K mg c) : PDef P w K mg base c.Claim "script" 1 (spClmFld c "own_script") := by
  refine T.p_Claim_script.def_ T.c_Claim.cl sc_Claim_script (fun vs H Q E ⟨_, _, _, _, e, _⟩ => by rw [e]; rfl) (fun _ _ _ _ _ _ us hl => match us, hl with | [_], _ => rfl) fun f cdv A outer s H vs Q E hr h => ?_
  obtain ⟨a, dx, fs, v, rfl, ha, l, q⟩ := h
  exact ⟨_, PSs.nox (pss_one (ps_ret (pe_fld (pv 0) rfl))), ⟨_, rfl, a, _, dx, fs, v, rfl, ha, T.c_Claim.cl, T.f_Claim_own_script, l, q⟩⟩
theorem ok_Claim_context (T : Txt w K mg c) : PDef P w K mg base c.Claim "context" 1 (spClmFld c "own_context") := by
  refine T.p_Claim_context.def_ T.c_Claim.cl sc_Claim_context (fun vs H Q E ⟨_, _, _, _, e, _⟩ => by rw [e]; rfl) (fun _ _ _ _ _ _ us hl => match us, hl with | [_], _ => rfl) fun f cdv A outer s H vs Q E hr h => ?_
  obtain ⟨a, dx, fs, v, rfl, ha, l, q⟩ := h
  exact ⟨_, PSs.nox (pss_one (ps_ret (pe_fld (pv 0) rfl))), ⟨_, rfl, a, _, dx, fs, v, rfl, ha, T.c_Claim.cl, T.f_Claim_own_context, l, q⟩⟩
theorem ok_Claim_goal (T : Txt w K mg c) : PDef P w K mg base c.Claim "goal" 1 (spClmFld c "own_goal") := by
  refine T.p_Claim_goal.def_ T.c_Claim.cl sc_Claim_goal (fun vs H Q E ⟨_, _, _, _, e, _⟩ => by rw [e]; rfl) (fun _ _ _ _ _ _ us hl => match us, hl with | [_], _ => rfl) fun f cdv A outer s H vs Q E hr h => ?_
  obtain ⟨a, dx, fs, v, rfl, ha, l, q⟩ := h
  exact ⟨_, PSs.nox (pss_one (ps_ret (pe_fld (pv 0) rfl))), ⟨_, rfl, a, _, dx, fs, v, rfl, ha, T.c_Claim.cl, T.f_Claim_own_goal, l, q⟩⟩
def spFacts (c : Cs) : Sp := fun vs H Q _ => ∃ (Mu : Mut1) (v : V) (e : Ent) (fs : List Fact), vs = [v] ∧ Wl Mu H ∧ Clm c Mu H v e fs ∧ ∀ p H', Same H H' → Fcts Mu H' p fs → H p = none → Q (.ref p) H'
theorem ok_Claim_facts (T : Txt w K mg c) : MDef P w K mg base CX0 c.Claim "facts" ["self"] 1 (spFacts c) := by
  refine T.m_Claim_facts.def_ T.c_Claim.cl sc_Claim_facts (fun vs H Q E ⟨_, _, _, _, e, _⟩ => by rw [e]; rfl) (fun _ _ _ _ _ _ us hl => match us, hl with | [_], _ => rfl) fun f cdv A outer s H vs Q E hr h => ?_
  obtain ⟨Mu, v, e, fs, rfl, wl, ⟨sv, k, g, d, ⟨a, dx, rfl, ma, ha⟩, _, _, _, hf⟩, q⟩ := h
  exact ⟨_, PSs.nox (pss_one (ps_ret (pe_callTy call_dictF (by rfl) T.n_dict bb_dict (pa_cons (pe_fld (pv 0) rfl) pa_nil)))), ⟨_, rfl, a, _, dx, _, _, rfl, ha, T.c_Claim.cl, T.f_Claim_own_facts, rfl, d, Mu, fs, rfl, wl, hf, q⟩⟩
/-! ### claim_in -/
theorem nodup_take : ∀ {l : List Str} {i : Nat} {y : Str}, l.Nodup → l[i]? = some y → y ∉ l.take i
  | [], _, _, _, h => by simp at h
  | a :: r, 0, y, _, _ => List.not_mem_nil
  | a :: r, i + 1, y, nd, h => fun m => by
    have nd := List.nodup_cons.mp nd
    have h : r[i]? = some y := h
    rcases List.mem_cons.mp m with e | m
    · exact nd.1 (e ▸ List.mem_of_getElem? h)
    · exact nodup_take nd.2 h m
theorem known_len (es : List Ent) (cs : List Cm) : (known es cs).length ≤ cs.length := by
  unfold known
  rw [List.length_map]
  exact Nat.le_trans (uniq_len _) (recs_len _)
def spClaimIn (c : Cs) : Sp := fun vs H Q _ => ∃ (Mu : Mut1) (d : Addr) (es : List Ent) (x : Str) (e : Ent), vs = [.ref d, .str x] ∧ Wl Mu H ∧ Cont c Mu H d es ∧ (∀ e ∈ es, EntOk e) ∧ Closed es ∧ ent? es x = some e ∧ ∀ v H', Same H H' → Clm c Mu H' v e (known es e.cmds) → Q v H'
theorem sc_claim_in : FnScope ["content", "name", "context", "goal", "script", "late", "facts"] ["content", "name"] (defScope s_claim_in) := ⟨rfl, rfl, rfl, by decide +kernel, rfl, by decide +kernel, by decide +kernel⟩
theorem ok_claim_in (T : Txt w K mg c) : Def P w K mg base CX0 "claim_in" ["content", "name"] 11 (spClaimIn c) := by
  obtain ⟨fC, fdC, gC, MC, FC, kC⟩ := ok_Claim (P := P) (base := base) T
  refine T.d_claim_in.def_ sc_claim_in (fun vs H Q E ⟨_, _, _, _, _, e, _⟩ => by rw [e]; rfl) (fun _ _ _ _ _ _ us hl => match us, hl with | [_, _], _ => rfl) fun f cdv A outer s H vs Q E hr h => ?_
  obtain ⟨Mu, d, es, x, e, rfl, wl, ct, ok, cl, he, q⟩ := h
  have hu := hu_of hr
  refine ⟨_, PSs.nox (pss_cons (ps_asg (pe_dget hu (pv 0) (pv 1) (fun _ _ => rfl)) (pg_tup rfl (pgs_cons (pg_name (i := 2) sc_claim_in.nd rfl (Or.inl rfl)) (pgs_cons (pg_name (i := 3) sc_claim_in.nd rfl (Or.inl rfl)) (pgs_cons (pg_name (i := 4) sc_claim_in.nd rfl (Or.inl rfl)) pgs_nil)))))
      (pss_cons (ps_setDc (i := 6) (own := [("late", 5)]) (tk := tVar 5) (tv := tCall (spStatement c) [] E0 (tCons (tOp (rIxT K) (tDGet (tVar 0) (tVar 5)) (tC (.int 0))) (tCons (tOp (rIxT K) (tDGet (tVar 0) (tVar 5)) (tC (.int 1))) tNil))) rfl sc_claim_in.nd rfl rfl (sw_dc rfl rfl rfl (by decide +kernel)) (pi_list (mcall0 (ok_Script_recalled T) hr (by decide) pass0 (pv 4))) (blkOk_by (N := ["content", "name", "context", "goal", "script", "late", "facts"]) (sc := (defScope s_claim_in)) (by decide +kernel)) (fun _ _ _ _ _ => (pg_name (i := 5) sc_claim_in.nd rfl (Or.inl rfl))) (fun _ _ _ _ _ => pts_nil) (fun _ _ _ _ _ => (pv 5))
        (fun _ _ _ _ _ => (dcall (ok_statement_terms T) hr (by decide) pass0 (pa_cons (pe_ix ix_tup (pe_dget hu (pv 0) (pv 5) (fun _ _ => rfl)) pe_int (fun _ _ => rfl)) (pa_cons (pe_ix ix_tup (pe_dget hu (pv 0) (pv 5) (fun _ _ => rfl)) pe_int (fun _ _ => rfl)) pa_nil)))))
      (pss_one (ps_ret (pe_makeK MC FC (hr.mono (by decide)) rfl T.c_Claim.at_ kC pass0 (pa_cons (pv 4) (pa_cons (pv 2) (pa_cons (pv 3) pa_nil))) (pk_cons (pv 6) pk_nil)))))), ?_⟩
  obtain ⟨md, kvs, hd, re⟩ := ct
  obtain ⟨v, hv, ev⟩ := re.get he
  obtain ⟨av, kx, gx, sx, rfl, mv, hv2, hk, hg, hs⟩ := ev
  have hs0 := hs
  obtain ⟨t, u, ⟨as, dx, rfl, ms, hsi⟩, _, _⟩ := hs
  have hem := (ent_has he).2.1
  have okE := ok e hem
  refine ⟨_, rfl, _, rfl, d, _, rfl, dgetV (.inl hd) hv, av, _, rfl, SqT.of hv2, rfl, _, _, rfl, _, _, rfl, _, _, rfl, rfl, ?_⟩
  refine ⟨_, rfl, as, dx, _, rfl, hsi, rfl, Mu, .ref as, e.cmds, rfl, wl, hs0, okE.co, okE.cl, fun p H1 s1 d1 n1 => ?_⟩
  obtain ⟨_, xs1, e1, m1, h1, r1⟩ := d1.asLst
  cases e1
  have e2 := dats_strs_eq r1
  subst e2
  refine ⟨p, rfl, ⟨_, SqL.of h1⟩, fun D hD => ?_⟩
  have nDp : p ≠ D := ne_of_none h1 hD
  have nDd : d ≠ D := ne_of_none (s1 _ _ hd) hD
  refine dc_it walk_list (fun i H2 => ∃ kvs2, Kp (fun b => b = D) (upd H1 D (.dK [])) H2 ∧ H2 D = some (.dK kvs2) ∧ KvF (wi Mu D) H2 kvs2 ((known es e.cmds).take i)) ⟨[], .refl _, upd_same, .nil⟩ (fun i H2 ⟨_, k2, _, _⟩ => SqL.of (k2.at_ _ _ nDp (by rw [upd_ne nDp]; exact h1))) ?_ ?_
  · rintro i x0 H2 H2' hi ⟨kvs2, k2, hD2, rF⟩ ⟨rfl, hx0⟩
    obtain ⟨y, hy, rfl⟩ := map_at hx0
    refine ⟨rfl, ?_⟩
    have ym : y ∈ recs e.cmds := mem_uniq.mp (List.mem_of_getElem? hy)
    obtain ⟨ey, hey, heym, heyn⟩ := ent_some (cl e hem y ym)
    have okY := ok ey heym
    have kD : Kp (wi Mu D) H1 H2' := (kp_upd (.inr rfl)).trans (k2.wide fun b m => .inr m)
    have wl2 : Wl (wi Mu D) H2' := (wl.same s1).wiK k2 hD2
    have re2 : KvE c (wi Mu D) H2' kvs es := ((re.keep (Kp.ofSame s1)).grow2 fun b m => m.imp id fun m => by rw [m, hD]; exact other_none).keep kD
    have hd2 : H2' d = some (.dK kvs) := k2.at_ _ _ nDd (by rw [upd_ne nDd]; exact s1 _ _ hd)
    obtain ⟨vy, hvy, evy⟩ := re2.get hey
    obtain ⟨ay, ky, gy, sy, rfl, my, hay, hky, hgy, _⟩ := evy
    refine ⟨_, rfl, ?_⟩
    refine ⟨_, rfl, _, rfl, d, _, rfl, dgetV (.inl hd2) hvy, ay, _, _, _, rfl, rfl, SqT.of hay, rfl, _, rfl, _, rfl, d, _, rfl, dgetV (.inl hd2) hvy, ay, _, _, _, rfl, rfl, SqT.of hay, rfl, ?_⟩
    refine ⟨wi Mu D, ky, gy, ey.rows, ey.goal, rfl, wl2, hky, hgy, okY.rl, fun vq H3 s3 dq => ?_⟩
    have ek : (known es e.cmds).take (i + 1) = (known es e.cmds).take i ++ [(y, states ey.rows ey.goal)] := take_succ (by
      unfold known
      rw [List.getElem?_map, hy]
      show some (y, statesOf es y) = _
      unfold statesOf
      rw [hey])
    have nin : valV kvs2 (Sum.inr y) = none := rF.no (by
      unfold known
      rw [← List.map_take, List.map_map, show (Prod.fst ∘ fun y => (y, statesOf es y)) = id from rfl, List.map_id]
      exact nodup_take (uniq_nodup _) hy)
    refine ⟨kvs2, Sum.inr y, rfl, s3 _ _ hD2, ?_, ?_⟩
    · rw [rF.len, List.length_take]
      have h1 := known_len es e.cmds
      have h2 := okE.cl
      exact Nat.lt_of_le_of_lt (Nat.min_le_right _ _) (Nat.lt_of_le_of_lt (by omega : _ ≤ 8) (by decide))
    · rw [putK_new _ nin]
      refine ⟨_, (k2.trans (.of s3)).trans (kp_upd rfl), upd_same, ?_⟩
      rw [ek]
      exact ((rF.keep (.of s3)).snoc dq).keep (kp_upd (.inr rfl))
  · rintro H2 ⟨kvs2, k2, hD2, rF⟩
    have lk : (known es e.cmds).length = (uniq (recs e.cmds)).length := List.length_map ..
    rw [List.length_map, ← lk, List.take_length] at rF
    have s2 : Same H1 H2 := fun b o eb => k2.at_ b o (ne_of_none eb hD) (by rw [upd_ne (ne_of_none eb hD)]; exact eb)
    have sA := s1.trans s2
    have mD : ¬ Mu D := (wl.same s1).new hD
    have fc : Fcts Mu H2 D (known es e.cmds) := ⟨mD, kvs2, hD2, rF.imp fun _ _ d => d.less fun b m => .inl m⟩
    have wl2 := wl.same sA
    have hk2 := hk.keep (Kp.ofSame (Mc := Mu) sA)
    have hg2 := hg.same sA
    have hs2 := hs0.keep (Kp.ofSame (Mc := Mu) sA)
    refine ⟨_, rfl, _, rfl, _, rfl, _, rfl, rfl, rfl, fun xa dxa nx nd ne => ?_⟩
    have s3 := same_ins (C := c.Claim) nx nd ne
    have gr : ∀ b, wi Mu xa b → Mu b ∨ H2 b = none := fun b m => m.imp id fun m => by rw [m]; exact nx
    have k3 : Kp (wi Mu xa) H2 (upd (upd H2 dxa (.own xa)) xa (.ins c.Claim dxa [])) := .of s3
    have wl3 : Wl (wi Mu xa) (upd (upd H2 dxa (.own xa)) xa (.ins c.Claim dxa [])) := (wl2.same s3).wi (by rw [upd_same]; exact fun z => by cases z)
    have fc3 : Fcts (wi Mu xa) H2 D (known es e.cmds) := ⟨fun m => m.elim mD (ne_of_none hD2 nx), kvs2, hD2, rF.imp fun _ _ d => (d.less fun b m => .inl m : Dat Mu _ _ _).grow gr⟩
    refine ⟨wi Mu xa, xa, dxa, D, .ref as, kx, gx, e.rows, e.goal, known es e.cmds, rfl, wl3, .inr rfl, upd_same, (hk2.grow gr).keep k3, okE.rl, (hg2.grow gr).keep k3, okE.go, okE.gd, fc3.keep k3, fun H4 d' k4 h4 f4 => ⟨rfl, ?_⟩⟩
    obtain ⟨s4, cl4⟩ := clm_made (c := c) wl2 nx nd ne k4 h4 hs2 hk2 hg2 f4
    exact q _ H4 (sA.trans s4) cl4
end
end AG
namespace PySem
namespace AGX
open PySem.W PySem.Calls PyProof.Rows PySem.HandSPX
/-! ### self.f = v on an exception of an own class over any built-in one -/
section
open Builtin Builtin.ObjectAttr
variable {prog : Program} {w : World} {A : Around} {R : Result → Shared → Prop} {hp : Heap} {g : Array GenState} {dr : Drawn} {t : Nat} {os : OsState} {K : Frag} {B : String} {bmB : List Value} {f : Str} {tk : Tok} {v : Value} {e C : Addr} {fv : Array Value} {cd : ClassData}
theorem store_walk {ox : Obj} {od : Option Obj} (SB : StoreFacts B bmB "object.__setattr__" "object") (X : K.In hp) (I : InstAt hp e ox C od) (lc : clsIn K C = some cd) (tl : excTail bmB cd.mro = true) (na : findIn K (.ref C) f = some none)
    (go : wpAny (model prog w) A.in1 (storeInOwnDict (.ref e) (.ref C) (.str f tk) f v false)
      (fun fin s' => match fin with | .done r => R (.ok r) s' | .again c' => c'.quiet = true ∧ codeAny (model prog w) A c' R s') (fun x s' => R (.error x) s') ⟨hp, g, dr, t, os⟩) :
    codeAny (model prog w) A (.call (.builtin "object.__setattr__") ⟨[.ref e, .str f tk, v], []⟩) R ⟨hp, g, dr, t, os⟩ := by
  have SO := PySem.F.store_object
  have has : cd.mro.contains (.type "object") = true := (excTail_contains "object" _ tl).trans SB.hasOwner
  have nonempty : ¬ (cd.mro.isEmpty = true) := fun z => by
    rw [List.isEmpty_iff.mp z] at has
    cases has
  have under : Looks (model prog w) hp (isInstance (.ref e) (.type "object")) true := I.type.andThen (looks_mroIn X (by unfold mroIn; rw [lc, Option.bind_some, if_neg nonempty, has]))
  refine codeAny_call_builtin SO.slot.plain SO.entry (@check_slot (model prog w) _ _ ⟨hp, g, dr, t, os⟩ "object.__setattr__" "object" "__setattr__" (.ref e) [.str f tk, v] [] _ SO.kind SO.split under (SO.args (.ref e) (.str f tk) v) ?_)
  have order : Looks (model prog w) hp (mroOf (.ref C)) cd.mro := (looks_clsIn X lc).andThen .now
  have noTaker : Looks (model prog w) hp (storeTaker? none) none := .now
  rw [osa_eq, refuse_eq]
  refine wpAny_bind (wpAny_bind (I.type.at (wpAny_bind (order.at ?_))))
  rw [excTail_pass (.ref e) (SB.passes _) _ tl]
  exact wpAny_pure (wpAny_bind (I.type.at (wpAny_bind ((looks_findIn X na).at (wpAny_bind (noTaker.at go))))))
theorem store_first (SB : StoreFacts B bmB "object.__setattr__" "object") (X : K.In hp) (he : hp.get? e = some { cls := .ref C, data := .fields fv }) (lc : clsIn K C = some cd) (tl : excTail bmB cd.mro = true) (hd : cd.hasDict = true) (na : findIn K (.ref C) f = some none)
    (go : ∀ h' tk' dx, (∀ b o, b ≠ e → hp.get? b = some o → h'.get? b = some o) → hp.objs.size ≤ dx → dx ≠ e → h'.get? e = some { cls := .ref C, dict := some dx, data := .fields fv } →
      h'.Ns1 dx (fun y => if y = f then some v else none) → R (.ok (.ret .none)) ⟨h', g, dr, tk', os⟩) :
    codeAny (model prog w) A (.call (.builtin "object.__setattr__") ⟨[.ref e, .str f tk, v], []⟩) R ⟨hp, g, dr, t, os⟩ := by
  have I : InstAt hp e { cls := .ref C, data := .fields fv } C none := ⟨he, rfl, rfl, trivial⟩
  have apart : e ≠ hp.objs.size := Nat.ne_of_lt (Heap.lt_size he)
  refine store_walk SB X I lc tl na ?_
  have data : Looks (model prog w) hp (classData C) cd := looks_clsIn X lc
  obtain ⟨nm, bs, mro, ns, qn, hdd, sn, sb, ab, col, del⟩ := cd
  dsimp only at hd
  subst hd
  unfold storeInOwnDict ownDictForStores
  repeat (first | with_reducible refine HandSPX.store_in_new ?_ ?_ | with_reducible refine wpAny_loadPart_at he ?_ | with_reducible refine data.at ?_ | wp_step)
  · exact ⟨_, #[], _, (Heap.get?_update_ne _ _ _ _ apart.symm).trans (Heap.get?_push_at rfl rfl), rfl, fun y hy => absurd hy (by simp), fun _ => rfl⟩
  · intro h' tk' hn sb
    have he1 : (hp.push { cls := .type "dict", data := .dict #[] }).get? e = some { cls := .ref C, data := .fields fv } := Heap.get?_push_of_some _ he
    refine go h' tk' hp.objs.size (fun b o nb ho => ?_) (Nat.le_refl _) apart.symm ?_ hn
    · exact (sb.2 b (Nat.ne_of_lt (Heap.lt_size ho))).trans ((Heap.get?_update_ne _ _ _ _ nb).trans (Heap.get?_push_of_some _ ho))
    · exact (sb.2 e apart).trans (Heap.get?_update_self _ he1 rfl)
theorem store_next {dx : Addr} {m0 : Str → Option Value} {nl : List Str} (SB : StoreFacts B bmB "object.__setattr__" "object") (X : K.In hp) (he : hp.get? e = some { cls := .ref C, dict := some dx, data := .fields fv }) (hn : hp.Ns1 dx m0) (hw : Within m0 nl) (hz : nl.length ≤ 1000)
    (lc : clsIn K C = some cd) (tl : excTail bmB cd.mro = true) (hd : cd.hasDict = true) (na : findIn K (.ref C) f = some none)
    (go : ∀ h' tk', (∀ b o, b ≠ dx → hp.get? b = some o → h'.get? b = some o) → h'.Ns1 dx (fun y => if y = f then some v else m0 y) → R (.ok (.ret .none)) ⟨h', g, dr, tk', os⟩) :
    codeAny (model prog w) A (.call (.builtin "object.__setattr__") ⟨[.ref e, .str f tk, v], []⟩) R ⟨hp, g, dr, t, os⟩ := by
  obtain ⟨oD, esD, epD, hoD, hdD, _⟩ := hn.count hw
  have I : InstAt hp e { cls := .ref C, dict := some dx, data := .fields fv } C (some oD) := ⟨he, rfl, rfl, hoD⟩
  refine store_walk SB X I lc tl na ?_
  have data : Looks (model prog w) hp (classData C) cd := looks_clsIn X lc
  obtain ⟨nm, bs, mro, ns, qn, hdd, sn, sb, ab, col, del⟩ := cd
  dsimp only at hd
  subst hd
  unfold storeInOwnDict ownDictForStores
  repeat (first | with_reducible refine OEX.store_in_old hn hw hz ?_ | with_reducible refine wpAny_loadPart_at he ?_ | with_reducible refine data.at ?_ | wp_step)
  intro h' tk' hn' sb'
  exact go h' tk' (fun b o nb ho => (sb'.2 b nb).trans ho) hn'
end
/-! ### super().__init__('..') -/
section
variable {prog : Program} {w : World} {M : Model} {A : Around} {E : Value → Shared → Prop} {h : Heap} {g : Array GenState} {dr : Drawn} {t : Nat} {os : OsState} {K : Frag} {B newId initId : String} {bmB : List Value}
variable {nm qn : Str} {C NS : Addr} {bs bm : List Value} {sn : List Str} {sub : List Value} {ab : Bool} {col : Option Bool} {dd : Option Addr} {k0 k1 k2 k3 k5 : Option Value}
theorem wrapper_call (F : ExcBaseFacts B newId initId bmB) {u e t0 : Addr} {vs : List Value} {Q : Value → Shared → Prop} (hC : h.get? C = some (excClassObj nm qn C NS bs bm true sn sub ab col dd k0 k1 k2 k3 k5 newId)) (he : h.get? e = some (excO C t0)) (hu : h.get? u = some (kxs_mw initId e)) (hz : vs.length ≤ sizeLine)
    (go : ∀ h' t1, (∀ b o, b ≠ e → h.get? b = some o → h'.get? b = some o) → h'.get? e = some (excO C t1) → Q .none ⟨h', g, dr, t, os⟩) : wpAny (model prog w) A (call (.ref u) vs) Q E ⟨h, g, dr, t, os⟩ := by
  refine wpAny_call (codeAny_of_tree ?_)
  show wpAny _ A.in1 (callAny (.ref u) ⟨vs, []⟩) _ _ ⟨h, g, dr, t, os⟩
  simp only [callAny]
  refine wpAny_bind (wpAny_load hu ?_)
  simp only [kxs_mw, show (Value.type "method-wrapper" == Value.type "method" || Value.type "method-wrapper" == Value.type "builtin_function_or_method" || Value.type "method-wrapper" == Value.type "method-wrapper") = true by decide, ite_true]
  refine KFB.if_so (by decide) (wpAny_bind (check_bound_init F.toExcCallFacts hC he rfl (wpAny_bind (wpAny_pure (wpAny_pure ⟨plainId_quiet F.init.plain _, codeAny_builtin F.initEntry ?_⟩)))))
  exact exc_init_tree (cls := .ref C) (t0 := t0) (dv := none) (c2 := .none) (c3 := .none) (b4 := .bool false) he hz fun h' k he' _ => go h' _ k he'
end
/-! ### the text of an __init__ -/
abbrev xCall (txt : Str) (p0 p1 p2 p3 p4 : Pos) : Expr := .Call (.Attribute (.Call (.Name "super" p0) [] [] p1) "__init__" p2) [.Constant (.str txt) 0 p3] [] p4
abbrev xBody (txt cod : Str) (p0 p1 p2 p3 p4 p5 p6 p7 p8 p9 : Pos) (rest : List Stmt) : List Stmt :=
  .Expr (xCall txt p0 p1 p2 p3 p4) p5 :: .Assign [.Attribute (.Name "self" p6) "code" p7] (.Constant (.str cod) 0 p8) p9 :: rest
/-- what is written of a class over B whose __init__ says super().__init__(txt) -/
structure XTxt (P : Program) (K : Frag) (mg : Str → Option Value) (x : Str) (C fI cc cda : Addr) (B newId initId : String) (bmB : List Value) : Prop where
  at_ : mg x = some (.ref C)
  cls : ∃ nm q N bs bm sn sub ab col dd k0 k1 k2 k3 k5, K.lookup C = some (excClassObj nm q C N bs bm true sn sub ab col dd k0 k1 k2 k3 k5 newId) ∧ excTail bmB bm = true
  sa : findIn K (.ref C) "__setattr__" = some (some (.builtin "object.__setattr__"))
  code : findIn K (.ref C) "code" = some none
  iC : findIn K (.ref C) "__init__" = some (some (.ref fI))
  tC : typeIn K (.ref fI) = some (.type "function")
  kC : keepIn K (.ref C) = true
  exC : subIn K (.ref C) (.type "BaseException") = some true
  tyC : typeIn K (.ref C) = some (.type "type")
  hdC : hasDictIn K C = true
  subB : subIn K (.ref C) (.type B) = some true
  self : mroIn K C (.ref C) = some true
  up : ks_superIn K C C "__init__" = some (some (.builtin initId))
  cell : ∃ cl cld csl, K.lookup cc = some ⟨cl, cld, .cell (some (.ref C)), csl⟩
  cod : ∃ ccl cdd vs ccs file tf, K.lookup cda = some ⟨ccl, cdd, .fields vs, ccs⟩ ∧ vs[2]? = some (.str file tf) ∧ ((P.main.file : Str) == file) = true
  third : nsIn K cStatics "thirdparty.any" = some none
  noSuper : mg "super" = none
  noTop : (P.main.scope.names.lookup ("super" : Str)).isSome = false
section
variable {prog : Program} {w : World} {A : Around} {E : Value → Shared → Prop} {h : Heap} {g : Array GenState} {dr : Drawn} {t : Nat} {os : OsState} {K : Frag} {mg : Str → Option Value} {base : Heap} {x : Str} {C fI cc cda L e : Addr} {B newId initId : String} {bmB : List Value}
theorem head_run (T : XTxt prog K mg x C fI cc cda B newId initId bmB) (F : ExcBaseFacts B newId initId bmB) (KF : KxsFacts B initId) (SB : StoreFacts B bmB "object.__setattr__" "object") (Md : L2.Mod K mg base) (k0 : ∀ b o, base.get? b = some o → h.get? b = some o)
    {q txt cod : Str} {p0 p1 p2 p3 p4 p5 p6 p7 p8 p9 : Pos} {rest : List Stmt} {sc : Scope} {body : List Stmt} {m : Str → Option Value} {t0 : Addr} {fd : FuncData} {oc : Value} {od : Option Addr} {osl : Array (Option Value)} {ar : Arg} {Q : Flow → Shared → Prop}
    {pl : Sem Bool} (hev : eval (xCall txt p0 p1 p2 p3 p4) (ksEnv q sc L fI (.ref cda) cc) = (do
      let ov ← attributeBase (.Call (.Name "super" p0) [] [] p1) "__init__" (ksEnv q sc L fI (.ref cda) cc) (eval (.Call (.Name "super" p0) [] [] p1) (ksEnv q sc L fI (.ref cda) cc))
      standAt p2.atName
      let (f, first) ← holding [ov] (getMethod ov "__init__" pl)
      callWith p4 f first (backTo p4 (starEach [.Constant (.str txt) 0 p3] (ksEnv q sc L fI (.ref cda) cc))) []))
    (hk : sc.kind = .function) (hks : sc.names.lookup ("super" : Str) = some .globalImplicit) (hkc : sc.names.lookup ("__class__" : Str) = some .free) (hka : sc.names.lookup ("self" : Str) = some .local) (hf : K.lookup fI = some ⟨oc, od, .func fd, osl⟩) (hp : (fd.params.posonlyargs ++ fd.params.args).head? = some ar) (har : ar.arg = "self")
    (hn : h.Ns L m) (hself : m "self" = some (.ref e)) (he : h.get? e = some (excO C t0)) (hne : K.lookup e = none) (heL : e ≠ L)
    (go : ∀ h' tk dx t1, (∀ b o, b ≠ e → h.get? b = some o → h'.get? b = some o) → L < dx → dx ≠ e → h'.get? e = some { cls := .ref C, dict := some dx, data := .fields #[.ref t1, .none, .none, .none, .bool false, .none] } →
      (∃ tc, h'.Ns1 dx (fun y => if y = "code" then some (.str cod tc) else none)) → wpAny (model prog w) A (execs rest (ksEnv q sc L fI (.ref cda) cc)) Q E ⟨h', g, dr, tk, os⟩) :
    PySem.wpAt (model prog w) A (.func body (ksEnv q sc L fI (.ref cda) cc)) (execs (xBody txt cod p0 p1 p2 p3 p4 p5 p6 p7 p8 p9 rest) (ksEnv q sc L fI (.ref cda) cc)) Q E ⟨h, g, dr, t, os⟩ := by
  obtain ⟨nm, qn, N, bs, bm, sn, sub, ab, col, dd, s0, s1, s2, s3, s5, lC, tl⟩ := T.cls
  obtain ⟨cl, cld, csl, lcell⟩ := T.cell
  obtain ⟨ccl, cdd, vs, ccs, file, tf, lcod, hvs, hfile⟩ := T.cod
  have X : K.In h := Md.kin.keeps k0
  have lc : clsIn K C = some { name := nm, bases := bs, mro := .ref C :: bm, ns := N, qualname := qn, hasDict := true, slotNames := sn, subclasses := sub, abstract := ab, collection := col, hasDel := false } := by
    unfold clsIn
    rw [lC] <;> rfl
  have I : InstAt h e (excO C t0) C none := ⟨he, rfl, rfl, trivial⟩
  obtain ⟨mb, hb1, hb2⟩ := Md.blt
  refine ks_wpAt_execs_cons (ks_wpAt_Expr_any (ks_wpAt_MethodCall (pl := pl) ?_ hev) (by simp [interactive, hk]))
  refine ks_wpAt_super_base (env := ksEnv q sc L fI (.ref cda) cc) hks hkc rfl rfl (X _ _ hf) rfl hp rfl (X _ _ lcod) rfl hvs hfile T.noTop ?_
  refine ks_loadName_global hk hks (loadGlobal_builtin (env := ksEnv q sc L fI (.ref cda) cc) (Md.glob.keeps k0) T.noSuper (hb1.keeps k0) ((hb2 _ (by decide +kernel)).trans (by decide +kernel)) ⟨rfl, ?_⟩)
  refine wpAny_loadName_free hk hkc rfl ⟨_, X _ _ lcell, rfl⟩ ?_
  rw [har]
  refine wpAny_loadName_local hk hka hn hself ?_
  refine ks_wpAny_isType_cls (X _ _ lC) rfl ⟨rfl, ?_⟩
  refine ks_wpAny_call_super (X _ _ lC) rfl he rfl (fun c z => nomatch z) (looks_mroIn X T.self) (fun h1 e1 kk1 => ?_)
  have X1 : K.In h1 := X.keeps kk1
  have I1 : InstAt h1 e (excO C t0) C none := ⟨kk1 _ _ he, rfl, rfl, trivial⟩
  have up := T.up
  unfold ks_superIn at up
  rw [lc] at up
  refine kxs_getMethod KF e1 (looks_opaque X1 T.third) (l₀ := .ref C :: bm) ((looks_clsIn X1 lc).andThen .now) rfl X1 up (I1.type.andThen (looks_subIn X1 T.subB)) (ks_ne X1 I1 lc) rfl ?_
  have e2 : (h1.push (kxs_mw initId e)).get? e = some (excO C t0) := Heap.get?_push_of_some _ I1.at_
  have u2 : (h1.push (kxs_mw initId e)).get? h1.objs.size = some (kxs_mw initId e) := Heap.get?_push_size _ rfl
  have X2 : K.In (h1.push (kxs_mw initId e)) := X1.keeps fun b o z => Heap.get?_push_of_some _ z
  have hn2 : (h1.push (kxs_mw initId e)).Ns L m := (hn.keeps kk1).keeps fun b o z => Heap.get?_push_of_some _ z
  have old2 : ∀ b o, h.get? b = some o → (h1.push (kxs_mw initId e)).get? b = some o := fun b o z => Heap.get?_push_of_some _ (kk1 b o z)
  generalize h1.push (kxs_mw initId e) = h2 at e2 u2 X2 hn2 old2 ⊢
  refine kxs_callWith (i := initId) (x := e) rfl (evalArgs_plain (spliced_cons (Constant_str (k := 0) (pos := p3) (spliced_nil ⟨u2, ?_⟩))))
  refine wrapper_call F (X2 _ _ lC) e2 u2 (by show 1 ≤ sizeLine; decide) fun h3 t1 k3 e3 => ?_
  -- self.code = '..'
  have hC3 : e ≠ C := ks_ne X I lc
  have X3 : K.In h3 := fun a o z => k3 a o (fun y => by rw [y, hne] at z; cases z) (X2 a o z)
  have hn3 : h3.Ns L m := hn2.at fun o z => k3 L o (Ne.symm heL) z
  refine wpAt_of_wpAny (wpAny_execs_cons (plainObj_wpAny_Assign_Attribute (Constant_str ?_)))
  refine wpAny_Name (wpAny_loadName_local hk hka hn3 hself ?_) (by decide +kernel)
  refine set_plain X3 (ox := excO C t1) (od := none) ⟨e3, rfl, rfl, trivial⟩ T.sa ?_
  refine store_first SB X3 e3 lc (show excTail bmB (.ref C :: bm) = true from tl) rfl T.code fun h4 tk4 dx k4 d4 dne e4 n4 => ?_
  exact go h4 _ dx t1 (fun b o nb z => k4 b o nb (k3 b o nb (old2 b o z))) (Nat.lt_of_lt_of_le hn3.lt d4) dne e4 ⟨_, n4⟩
end
/-- a def of that form: fld: the one more parameter, stored as a field of its name -/
structure Form (st : Stmt) (q cod : Str) (fld : Option Str) : Prop where
  body : ∃ (txt : Str) (p0 p1 p2 p3 p4 p5 p6 p7 p8 p9 : Pos) (rest : List Stmt), L2.defBody st = xBody txt cod p0 p1 p2 p3 p4 p5 p6 p7 p8 p9 rest ∧
    (match fld with
      | none => rest = []
      | some f => ∃ r1 r2 r3 r4, rest = [.Assign [.Attribute (.Name "self" r1) f r2] (.Name f r3) r4]) ∧
    ∀ L fI cda cc, ∃ pl, eval (xCall txt p0 p1 p2 p3 p4) (ksEnv q (L2.defScope st) L fI (.ref cda) cc) = (do
      let ov ← attributeBase (.Call (.Name "super" p0) [] [] p1) "__init__" (ksEnv q (L2.defScope st) L fI (.ref cda) cc) (eval (.Call (.Name "super" p0) [] [] p1) (ksEnv q (L2.defScope st) L fI (.ref cda) cc))
      standAt p2.atName
      let (f, first) ← holding [ov] (getMethod ov "__init__" pl)
      callWith p4 f first (backTo p4 (starEach [.Constant (.str txt) 0 p3] (ksEnv q (L2.defScope st) L fI (.ref cda) cc))) [])
  kind : (L2.defScope st).kind = .function
  sup : (L2.defScope st).names.lookup ("super" : Str) = some .globalImplicit
  own : (L2.defScope st).names.lookup ("__class__" : Str) = some .free
  me : (L2.defScope st).names.lookup ("self" : Str) = some .local
  arg : ∃ ar, ((L2.defArgs st).posonlyargs ++ (L2.defArgs st).args).head? = some ar ∧ ar.arg = "self"
  cells : ∀ y ∈ (L2.defScope st).names, y.2 ≠ .cell
  gen : (L2.defScope st).isGenerator = false
  cor : (L2.defScope st).isCoroutine = false
  bind : ∀ (doc pm : Value) (an : Option Addr) (cdv ct : Value) (cc : Addr) (a : Value), match fld with
    | none => bindArgs (ksFn "__init__" q (L2.defArgs st) (L2.defBody st) (L2.defScope st) .none .none doc pm an cdv ct cc) ⟨[a], []⟩ = pure [(("self" : Str), a)]
    | some f => ∀ v, bindArgs (ksFn "__init__" q (L2.defArgs st) (L2.defBody st) (L2.defScope st) .none .none doc pm an cdv ct cc) ⟨[a, v], []⟩ = pure [(("self" : Str), a), (f, v)]
  more : match fld with
    | none => True
    | some f => (L2.defScope st).names.lookup f = some .local ∧ (f == ("__debug__" : Str)) = false ∧ f ≠ "self" ∧ f ≠ "code"
/-- what stands behind a class of that form -/
structure XAll (P : Program) (K : Frag) (mg : Str → Option Value) (x : Str) (st : Stmt) (q cod : Str) (fld : Option Str) (C : Addr) (B newId initId : String) (bmB : List Value) : Prop where
  form : Form st q cod fld
  ex : ∃ fI cc cda, XTxt P K mg x C fI cc cda B newId initId bmB ∧ ∃ (oc : Value) (od : Option Addr) (doc pm : Value) (an : Option Addr) (ct : Value) (osl : Array (Option Value)),
    K.lookup fI = some ⟨oc, od, .func (ksFn "__init__" q (L2.defArgs st) (L2.defBody st) (L2.defScope st) .none .none doc pm an (.ref cda) ct cc), osl⟩ ∧ codeIn K (.ref cda) q = true
  fld : match fld with
    | none => True
    | some f => findIn K (.ref C) f = some none
  FB : ExcBaseFacts B newId initId bmB
  KF : KxsFacts B initId
  SB : StoreFacts B bmB "object.__setattr__" "object"
/-- the fields of a made one -/
def flds (cod : Str) (fld : Option Str) (vs : List L2.V) : List (Str × L2.V) := match fld, vs with
  | some f, [v] => [(f, v), (("code" : Str), .str cod)]
  | _, _ => [(("code" : Str), .str cod)]
/-- the values that are handed on -/
def given (fld : Option Str) (us : List Value) : Prop := match fld with
  | none => us = []
  | some _ => ∃ u, us = [u]
/-- what is in the dict of a made one -/
def inDict (cod : Str) (fld : Option Str) (us : List Value) (mA : Str → Option Value) : Prop := ∃ tc, match fld, us with
  | some f, [u] => mA = fun (y : Str) => if y = f then some u else if y = ("code" : Str) then some (Value.str cod tc) else none
  | _, _ => mA = fun (y : Str) => if y = ("code" : Str) then some (Value.str cod tc) else none
section
variable {prog : Program} {w : World} {A : Around} {R : Result → Shared → Prop} {s : Shared} {K : Frag} {mg : Str → Option Value} {base : Heap} {x q cod : Str} {st : Stmt} {fld : Option Str} {C : Addr} {B newId initId : String} {bmB : List Value}
theorem own_init (T : XAll prog K mg x st q cod fld C B newId initId bmB) (Md : L2.Mod K mg base) (k0 : ∀ b o, base.get? b = some o → s.heap.get? b = some o) {e t0 fI : Addr} {us : List Value} (hi : findIn K (.ref C) "__init__" = some (some (.ref fI))) (gv : given fld us) (he : s.heap.get? e = some (excO C t0)) (hne : K.lookup e = none) (hroom : A.depth < recursionLimit)
    (go : ∀ h' tk dx t1 mA, (∀ b o, b ≠ e → s.heap.get? b = some o → h'.get? b = some o) → s.heap.objs.size ≤ dx → dx ≠ e → h'.get? e = some { cls := .ref C, dict := some dx, data := .fields #[.ref t1, .none, .none, .none, .bool false, .none] } → h'.Ns1 dx mA → inDict cod fld us mA → R (.ok (.ret .none)) { s with heap := h', toks := tk }) :
    codeAny (model prog w) A (.call (.ref fI) ⟨.ref e :: us, []⟩) R s := by
  obtain ⟨fI', cc, cda, TX, oc, od, doc, pm, an, ct, osl, lf, hcd⟩ := T.ex
  have ef : fI' = fI := by
    have := TX.iC
    rw [hi] at this
    injection this with this
    injection this with this
    injection this with this
    exact this.symm
  subst ef
  obtain ⟨txt, p0, p1, p2, p3, p4, p5, p6, p7, p8, p9, rest, hB, hR, hev⟩ := T.form.body
  obtain ⟨ar, har, hself⟩ := T.form.arg
  have X : K.In s.heap := Md.kin.keeps k0
  have lim := Md.nolimit.keeps k0
  have ne_L : e ≠ s.heap.objs.size := Nat.ne_of_lt (Heap.lt_size he)
  obtain ⟨hp, g, dr, tk, os⟩ := s
  cases fld with
  | none =>
    cases gv
    have hR : rest = [] := hR
    subst hR
    refine ks_codeAny_call_defAt (binds := [(("self" : Str), .ref e)]) hroom (X _ _ lf) rfl lim (codeRec_of X hcd) rfl (BindsTo.of_eq (T.form.bind doc pm an (.ref cda) ct cc (.ref e))) T.form.cells (fun y hy => ?_) (fun h1 hn k1 => ?_) T.form.cor T.form.gen T.form.kind
    · rw [List.mem_singleton.mp hy]
      exact T.form.me
    · obtain ⟨pl, ev⟩ := hev hp.objs.size fI' cda cc
      rw [hB]
      refine head_run (ar := ar) TX T.FB T.KF T.SB Md (fun b o z => k1 b o (k0 b o z)) ev T.form.kind T.form.sup T.form.own T.form.me lf har hself hn (by simp) (k1 _ _ he) hne ne_L fun h' tk' dx t1 k' dx1 dx2 e' ⟨tc, n'⟩ => ?_
      exact wpAny_execs_nil (go h' tk' dx t1 _ (fun b o nb z => k' b o nb (k1 b o z)) (Nat.le_of_lt dx1) dx2 e' n' ⟨tc, rfl⟩)
  | some f =>
    obtain ⟨u, rfl⟩ := gv
    obtain ⟨r1, r2, r3, r4, rfl⟩ := hR
    obtain ⟨hf1, hf2, hf3, hf4⟩ := T.form.more
    have hfld : findIn K (.ref C) f = some none := T.fld
    refine ks_codeAny_call_defAt (binds := [(("self" : Str), .ref e), (f, u)]) hroom (X _ _ lf) rfl lim (codeRec_of X hcd) rfl (BindsTo.of_eq (T.form.bind doc pm an (.ref cda) ct cc (.ref e) u)) T.form.cells (fun y hy => ?_) (fun h1 hn k1 => ?_) T.form.cor T.form.gen T.form.kind
    · rcases List.mem_cons.mp hy with rfl | hy
      · exact T.form.me
      · rw [List.mem_singleton.mp hy]
        exact hf1
    · obtain ⟨pl, ev⟩ := hev hp.objs.size fI' cda cc
      rw [hB]
      have fs : (("self" : Str) == f) = false := beq_eq_false_iff_ne.mpr (Ne.symm hf3)
      have m1 : ([(("self" : Str), Value.ref e), (f, u)].reverse.lookup ("self" : Str)) = some (.ref e) := by simp [List.lookup, fs]
      have m2 : ([(("self" : Str), Value.ref e), (f, u)].reverse.lookup f) = some u := by simp [List.lookup]
      refine head_run (ar := ar) TX T.FB T.KF T.SB Md (fun b o z => k1 b o (k0 b o z)) ev T.form.kind T.form.sup T.form.own T.form.me lf har hself hn m1 (k1 _ _ he) hne ne_L fun h' tk' dx t1 k' dx1 dx2 e' ⟨tc, n'⟩ => ?_
      obtain ⟨nm, qn, N, bs, bm, sn, sub, ab, col, dd, s0, s1, s2, s3, s5, lC, tl⟩ := TX.cls
      have lc : clsIn K C = some { name := nm, bases := bs, mro := .ref C :: bm, ns := N, qualname := qn, hasDict := true, slotNames := sn, subclasses := sub, abstract := ab, collection := col, hasDel := false } := by
        unfold clsIn
        rw [lC] <;> rfl
      have X' : K.In h' := fun a o z => k' a o (fun y => by rw [y, hne] at z; cases z) (k1 a o (X a o z))
      have hn' : h'.Ns hp.objs.size fun y => [(("self" : Str), Value.ref e), (f, u)].reverse.lookup y := hn.at fun o z => k' _ o (Ne.symm ne_L) z
      refine wpAny_execs_cons (plainObj_wpAny_Assign_Attribute (wpAny_Name (wpAny_loadName_local T.form.kind hf1 hn' m2 ?_) hf2))
      refine wpAny_Name (wpAny_loadName_local T.form.kind T.form.me hn' m1 ?_) (by decide +kernel)
      obtain ⟨oD, esD, epD, hoD, _⟩ := id n'
      refine set_plain X' (ox := { cls := .ref C, dict := some dx, data := .fields #[.ref t1, .none, .none, .none, .bool false, .none] }) (od := some oD) ⟨e', rfl, rfl, hoD⟩ TX.sa ?_
      refine store_next T.SB X' e' n' (nl := [("code" : Str)]) ?_ (by decide) lc (show excTail bmB (.ref C :: bm) = true from tl) rfl hfld fun h4 tk4 k4 n4 => ?_
      · intro y hy
        by_cases z : y = "code"
        · exact List.mem_singleton.mpr z
        · exact absurd (if_neg z) hy
      · have he4 := k4 _ _ (Ne.symm dx2) e'
        exact wpAny_execs_nil (go h4 tk4 dx t1 _ (fun b o nb z => k4 b o (Nat.ne_of_lt (Nat.lt_of_lt_of_le (Heap.lt_size z) (Nat.le_of_lt dx1))) (k' b o nb (k1 b o z))) (Nat.le_of_lt dx1) dx2 he4 n4 ⟨tc, rfl⟩)
theorem own_made (T : XAll prog K mg x st q cod fld C B newId initId bmB) (Md : L2.Mod K mg base) (k0 : ∀ b o, base.get? b = some o → s.heap.get? b = some o) {us : List Value} (gv : given fld us) (hroom : A.depth + 1 < recursionLimit)
    (go : ∀ h' tk e dx t1 mA, (∀ b o, s.heap.get? b = some o → h'.get? b = some o) → s.heap.objs.size ≤ e → s.heap.objs.size ≤ dx → dx ≠ e → h'.get? e = some { cls := .ref C, dict := some dx, data := .fields #[.ref t1, .none, .none, .none, .bool false, .none] } → h'.Ns1 dx mA → inDict cod fld us mA →
      R (.ok (.ret (.ref e))) { s with heap := h', toks := tk }) : codeAny (model prog w) A (.call (.ref C) ⟨us, []⟩) R s := by
  obtain ⟨fI, cc, cda, TX, _⟩ := id T.ex
  obtain ⟨nm, qn, N, bs, bm, sn, sub, ab, col, dd, s0, s1, s2, s3, s5, lC, tl⟩ := TX.cls
  have X : K.In s.heap := Md.kin.keeps k0
  have hz : us.length ≤ sizeLine := by
    cases fld with
    | none =>
      cases gv
      exact Nat.zero_le _
    | some f =>
      obtain ⟨u, rfl⟩ := gv
      show 1 ≤ sizeLine
      decide
  obtain ⟨hp, g, dr, tk, os⟩ := s
  have kk : ∀ b o, hp.get? b = some o → ((hp.push (kdv_tup us)).push (excO C hp.objs.size)).get? b = some o := fun b o z => Heap.get?_push_of_some _ (Heap.get?_push_of_some _ z)
  have at_e : ((hp.push (kdv_tup us)).push (excO C hp.objs.size)).get? (hp.objs.size + 1) = some (excO C hp.objs.size) := by heap_get
  have new_e : K.lookup (hp.objs.size + 1) = none := by
    cases z : K.lookup (hp.objs.size + 1) with
    | none => rfl
    | some o => exact absurd (Nat.lt_of_succ_lt (Heap.lt_size (show hp.get? (hp.objs.size + 1) = some o from X _ _ z))) (Nat.lt_irrefl _)
  refine call_own T.FB (fun Y => excTail_contains Y bm tl) (X _ _ lC) (looks_findIn X TX.iC) (fun me => bind_fn X me TX.tC) hz ?_
  refine own_init (s := ⟨(hp.push (kdv_tup us)).push (excO C hp.objs.size), g, dr, tk, os⟩) T Md (fun b o z => kk b o (k0 b o z)) TX.iC gv at_e new_e hroom fun h' tk' dx t1 mA k' dx1 dx2 e' n' d' => ?_
  have z : hp.objs.size + 1 + 1 ≤ dx := by
    have y : ((hp.push (kdv_tup us)).push (excO C hp.objs.size)).objs.size ≤ dx := dx1
    rw [Heap.size_push, Heap.size_push] at y
    exact y
  exact ⟨rfl, go h' tk' (hp.objs.size + 1) dx t1 mA (fun b o y => k' b o (Nat.ne_of_lt (Nat.lt_succ_of_lt (Heap.lt_size y))) (kk b o y)) (Nat.le_succ _) (Nat.le_trans (Nat.le_trans (Nat.le_succ _) (Nat.le_succ _)) z) dx2 e' n' d'⟩
end
end AGX
end PySem
namespace AG
open PySem PySem.Spec PyProof.Rows L2
/-! ### raise C(..) -/
theorem flds_rel {cod : Str} {fld : Option Str} {vs : List V} {us : List Value} {mA : Str → Option Value} (r : Vals vs us) (g : AGX.given fld us) (d : AGX.inDict cod fld us mA) (f : Str) : RelO ((AGX.flds cod fld vs).lookup f) (mA f) := by
  have one : ∀ {k : Str} {v : V} {u : Value} {l : List (Str × V)} {m : Str → Option Value}, RelV v u → RelO (l.lookup f) (m f) → RelO (((k, v) :: l).lookup f) (if f = k then some u else m f) := by
    intro k v u l m rv rl
    by_cases z : f = k
    · subst z
      rw [if_pos rfl, show ((f, v) :: l).lookup f = some v by simp [List.lookup]]
      exact rv
    · rw [if_neg z]
      have y : (f == k) = false := by simpa using z
      simpa [List.lookup, y] using rl
  obtain ⟨tc, d⟩ := d
  cases fld with
  | none =>
    have d : mA = _ := d
    rw [d]
    exact one (l := []) (m := fun _ => none) ⟨tc, rfl⟩ trivial
  | some k =>
    obtain ⟨u, rfl⟩ := g
    obtain ⟨v, rfl, rv⟩ : ∃ v, vs = [v] ∧ RelV v u := by
      cases r with
      | cons a b =>
        cases b
        exact ⟨_, rfl, a⟩
    have d : mA = _ := d
    rw [d]
    exact one (l := [(("code" : Str), V.str cod)]) (m := fun y => if y = ("code" : Str) then some (.str cod tc) else none) rv (one (l := []) (m := fun _ => none) ⟨tc, rfl⟩ trivial)
def tMkX (C : Addr) (cod : Str) (fld : Option Str) (t : TA) : L2.St → Hp → XK → Prop := fun σ H Q => t σ H fun vs H1 => (match fld with
  | none => vs = []
  | some _ => ∃ v, vs = [v]) ∧ ∀ d, H1 d = none → Q (.ref C) (some d) (upd H1 d (.xd (AGX.flds cod fld vs)))
section
variable {X : Cx} {x q cod : Str} {st : Stmt} {fld : Option Str} {C : Addr} {B newId initId : String} {bmB : List Value} {p pos pos2 : Pos} {k : Nat} {es : List Expr} {t : TA} {e : Expr}
theorem mkX_run (T : AGX.XAll X.prog X.K X.mg x st q cod fld C B newId initId bmB) (hr : Room k X.A) {pins : List (Addr × Obj)} {σ : L2.St} {H : Hp} {s : Shared} {vs : List V} {us : List Value} {Q : XK} (I : Inv X pins σ H s) (r : Vals vs us) (gv : AGX.given fld us) (h : ∀ d, H d = none → Q (.ref C) (some d) (upd H d (.xd (AGX.flds cod fld vs)))) :
    wpAny (model X.prog X.w) X.A (call (.ref C) us) (MkP X pins σ Q) X.xe s := by
  obtain ⟨fI, cc, cda, TX, _⟩ := id T.ex
  have I0 := I
  obtain ⟨hp, g, dr, tk, os⟩ := s
  refine wpAny_call (AGX.own_made T I.mod I.bk gv (by have := hr.dp; omega) fun h' tk' e dx t1 mA k' le1 le2 ne e' n' d' => ?_)
  obtain ⟨G, g1, g2⟩ := restrict h' fun b => decide (b ≠ e)
  have gk : ∀ b, b ≠ e → G.get? b = h'.get? b := fun b hb => g1 b (decide_eq_true hb)
  have ge : G.get? e = none := g2 e (by simp)
  have old : ∀ b o, hp.get? b = some o → G.get? b = some o := fun b o z => (gk b (Nat.ne_of_lt (Nat.lt_of_lt_of_le (Heap.lt_size z) le1))).trans (k' b o z)
  have ob : ObjOk X.prog X.w (upd H dx (.xd (AGX.flds cod fld vs))) G dx (.xd (AGX.flds cod fld vs)) := ⟨_, n'.at (fun o z => (gk dx ne).trans z), flds_rel r gv d'⟩
  have J : Inv X pins σ (upd H dx (.xd (AGX.flds cod fld vs))) ⟨G, g, dr, tk', os⟩ := I.laid (t' := tk') old le2 ob
  refine ⟨e, _, _, ⟨G, g, dr, tk', os⟩, _, .ref C, some dx, rfl, J, fun b o z => ?_, ge, e', ⟨rfl, rfl⟩, rfl, rfl, ?_, rfl, I.bare, raises_own TX.exC TX.tyC, h dx (I.hok.fresh le2)⟩
  · by_cases hb : b = e
    · have z : G.get? b = some o := z
      rw [hb, ge] at z
      cases z
    · exact (gk b hb).symm.trans z
  · rw [upd_ne (Ne.symm ne)]
    exact I.hok.fresh le1
/-- C(e) -/
theorem pmkX (T : AGX.XAll X.prog X.K X.mg x st q cod fld C B newId initId bmB) (hr : Room k X.A) (ha : PA X (e :: es) t) (hg : Gl X x := by rfl) (hd : (x == ("__debug__" : Str)) = false := by decide +kernel)
    (he : starEach (e :: es) X.env = (false, eval e X.env) :: starEach es X.env := by rfl) (hpl : (backTo pos (starEach es X.env)).any (·.1) = false := by rfl) : PMk X (.Call (.Name x p) (e :: es) [] pos) (tMkX C cod fld t) := by
  obtain ⟨fI, cc, cda, TX, _⟩ := id T.ex
  intro pins s σ H Q I h
  refine wpAny_Call_Name_kw (ld_glob I hg TX.at_ ?_ hd)
  refine PySem.W.callWith_K (h₀ := X.base) I.ok.mod.kin TX.kC (thn (ha.run pos pins s σ H _ I h) fun us s1 ⟨vs, H1, I1, r1, g1, q1⟩ => ⟨I1.kIn, mkX_run T hr I1 r1 ?_ q1⟩) he hpl
  cases fld with
  | none =>
    have g1 : vs = [] := g1
    subst g1
    cases r1
    rfl
  | some f =>
    obtain ⟨v, rfl⟩ := g1
    obtain ⟨u, rfl, _⟩ := vals1 r1
    exact ⟨u, rfl⟩
/-- C() -/
theorem pmkX0 (T : AGX.XAll X.prog X.K X.mg x st q cod none C B newId initId bmB) (hr : Room k X.A) (hg : Gl X x := by rfl) (hd : (x == ("__debug__" : Str)) = false := by decide +kernel) : PMk X (.Call (.Name x p) [] [] pos) (tMkX C cod none tNil) := by
  obtain ⟨fI, cc, cda, TX, _⟩ := id T.ex
  intro pins s σ H Q I h
  refine wpAny_Call_Name_kw (ld_glob I hg TX.at_ ?_ hd)
  exact PySem.W.callWith_K0 I.kIn TX.kC (mkX_run T hr I .nil rfl h.2)
def tRaiseX (C : Addr) (cod : Str) (fld : Option Str) (W : WX) (t : TA) : TS := fun _ σ H => tMkX C cod fld t σ H fun cls d H' => W cls d σ H'
theorem ps_raiseX {W : WX} (hc : X.calm = true) (T : AGX.XAll X.prog X.K X.mg x st q cod fld C B newId initId bmB) (hr : Room k X.A) (tk : Takes X W) (ha : PA X (e :: es) t) (hg : Gl X x := by rfl) (hd : (x == ("__debug__" : Str)) = false := by decide +kernel)
    (he : starEach (e :: es) X.env = (false, eval e X.env) :: starEach es X.env := by rfl) (hpl : (backTo pos (starEach es X.env)).any (·.1) = false := by rfl) : PS X (.Raise (some (.Call (.Name x p) (e :: es) [] pos)) none pos2) (tRaiseX C cod fld W t) := ps_raise hc tk (pmkX T hr ha hg hd he hpl)
theorem ps_raiseX0 {W : WX} (hc : X.calm = true) (T : AGX.XAll X.prog X.K X.mg x st q cod none C B newId initId bmB) (hr : Room k X.A) (tk : Takes X W) (hg : Gl X x := by rfl) (hd : (x == ("__debug__" : Str)) = false := by decide +kernel) :
    PS X (.Raise (some (.Call (.Name x p) [] [] pos)) none pos2) (tRaiseX C cod none W tNil) := ps_raise hc tk (pmkX0 T hr hg hd)
end
end AG
namespace AG
open PySem PySem.Spec PyProof.Rows L2
theorem form_Circular : AGX.Form s_Circular___init__ "Circular.__init__" "Circular" (some "name") :=
  ⟨⟨_, _, _, _, _, _, _, _, _, _, _, _, rfl, ⟨_, _, _, _, rfl⟩, fun _ _ _ _ => ⟨_, rfl⟩⟩, rfl, rfl, rfl, rfl, ⟨_, rfl, rfl⟩, by decide +kernel, rfl, rfl, fun _ _ _ _ _ _ _ _ => rfl, ⟨rfl, by decide +kernel, by decide +kernel, by decide +kernel⟩⟩
theorem form_NameInUse : AGX.Form s_NameInUse___init__ "NameInUse.__init__" "NameInUse" (some "user") :=
  ⟨⟨_, _, _, _, _, _, _, _, _, _, _, _, rfl, ⟨_, _, _, _, rfl⟩, fun _ _ _ _ => ⟨_, rfl⟩⟩, rfl, rfl, rfl, rfl, ⟨_, rfl, rfl⟩, by decide +kernel, rfl, rfl, fun _ _ _ _ _ _ _ _ => rfl, ⟨rfl, by decide +kernel, by decide +kernel, by decide +kernel⟩⟩
theorem form_Full : AGX.Form s_Full___init__ "Full.__init__" "Full" (some "most") :=
  ⟨⟨_, _, _, _, _, _, _, _, _, _, _, _, rfl, ⟨_, _, _, _, rfl⟩, fun _ _ _ _ => ⟨_, rfl⟩⟩, rfl, rfl, rfl, rfl, ⟨_, rfl, rfl⟩, by decide +kernel, rfl, rfl, fun _ _ _ _ _ _ _ _ => rfl, ⟨rfl, by decide +kernel, by decide +kernel, by decide +kernel⟩⟩
theorem form_UnknownName : AGX.Form s_UnknownName___init__ "UnknownName.__init__" "UnknownName" (some "value") :=
  ⟨⟨_, _, _, _, _, _, _, _, _, _, _, _, rfl, ⟨_, _, _, _, rfl⟩, fun _ _ _ _ => ⟨_, rfl⟩⟩, rfl, rfl, rfl, rfl, ⟨_, rfl, rfl⟩, by decide +kernel, rfl, rfl, fun _ _ _ _ _ _ _ _ => rfl, ⟨rfl, by decide +kernel, by decide +kernel, by decide +kernel⟩⟩
theorem form_NothingLeft : AGX.Form s_NothingLeft___init__ "NothingLeft.__init__" "NothingLeft" none :=
  ⟨⟨_, _, _, _, _, _, _, _, _, _, _, _, rfl, rfl, fun _ _ _ _ => ⟨_, rfl⟩⟩, rfl, rfl, rfl, rfl, ⟨_, rfl, rfl⟩, by decide +kernel, rfl, rfl, fun _ _ _ _ _ _ _ => rfl, trivial⟩
/-- the errors that are raised -/
structure Exs (P : Program) (K : PySem.W.Frag) (mg : Str → Option Value) (c : Cs) : Prop where
  circ : AGX.XAll P K mg "Circular" s_Circular___init__ "Circular.__init__" "Circular" (some "name") c.Circular "ValueError" "ValueError.__new__" "ValueError.__init__" mroVE
  inuse : AGX.XAll P K mg "NameInUse" s_NameInUse___init__ "NameInUse.__init__" "NameInUse" (some "user") c.NameInUse "ValueError" "ValueError.__new__" "ValueError.__init__" mroVE
  full : AGX.XAll P K mg "Full" s_Full___init__ "Full.__init__" "Full" (some "most") c.Full "ValueError" "ValueError.__new__" "ValueError.__init__" mroVE
  unknown : AGX.XAll P K mg "UnknownName" s_UnknownName___init__ "UnknownName.__init__" "UnknownName" (some "value") c.UnknownName "LookupError" "LookupError.__new__" "LookupError.__init__" mroLE
  nothing : AGX.XAll P K mg "NothingLeft" s_NothingLeft___init__ "NothingLeft.__init__" "NothingLeft" none c.NothingLeft "IndexError" "IndexError.__new__" "IndexError.__init__" mroIE
/-- the classes that the law catches -/
abbrev caught (c : Cs) : List Value := [.ref c.GroundError, .ref c.Missing, .ref c.NothingLeft]
/-- an error's class is caught, its fields are read -/
structure Seen (K : PySem.W.Frag) (c : Cs) (C : Addr) (f : Option Str) : Prop where
  any : PySem.W.exmAny K (.ref C) (caught c) = some true
  xf : XfC K C
  code : PySem.W.findIn K (.ref C) "code" = some none
  fld : ∀ g, f = some g → PySem.W.findIn K (.ref C) g = some none
structure Sees (K : PySem.W.Frag) (mg : Str → Option Value) (c : Cs) : Prop where
  ground : mg "GroundError" = some (.ref c.GroundError)
  missing : mg "Missing" = some (.ref c.Missing)
  nothing : mg "NothingLeft" = some (.ref c.NothingLeft)
  s_circ : Seen K c c.Circular (some "name")
  s_inuse : Seen K c c.NameInUse (some "user")
  s_full : Seen K c c.Full (some "most")
  s_unknown : Seen K c c.UnknownName (some "value")
  s_nothing : Seen K c c.NothingLeft none
/-- an error that the shelf tells -/
inductive Er where
  | circ (x : Str)
  | inuse (x : Str)
  | full (n : Int)
  | unknown (x : Str)
  | nothing
def Er.cls (c : Cs) : Er → Addr
  | .circ _ => c.Circular
  | .inuse _ => c.NameInUse
  | .full _ => c.Full
  | .unknown _ => c.UnknownName
  | .nothing => c.NothingLeft
def Er.flds : Er → List (Str × V)
  | .circ x => AGX.flds "Circular" (some "name") [.str x]
  | .inuse x => AGX.flds "NameInUse" (some "user") [.str x]
  | .full n => AGX.flds "Full" (some "most") [.int n]
  | .unknown x => AGX.flds "UnknownName" (some "value") [.str x]
  | .nothing => AGX.flds "NothingLeft" none []
/-- such an error may leave -/
def Raise (c : Cs) (e : Er) (H : Hp) (E : XK) : Prop := ∀ d H', Same H H' → H' d = some (.xd e.flds) → E (.ref (e.cls c)) (some d) H'
end AG
namespace PySem
namespace AGX
section
variable {prog : Program} {w : World} {K : Type} [DecidableEq K] {knd : KeyKind prog w K} {A : Around} {E : Value → Shared → Prop} {s : Shared}
theorem put_pairs {d : Addr} {kvs : List (K × Value)} {k : K} {key v : Value} {Q : Unit → Shared → Prop} (hkey : knd.is k key = true) (hm : s.heap.DictOf knd d kvs) (hsz : kvs.length ≤ sizeLine)
    (go : ∀ h', h'.DictOf knd d (stored kvs k v) → Heap.SameBut d s.heap h' → Q () { s with heap := h' }) : wpAny (model prog w) A (dictPut d (knd.hash k) key v) Q E s := by
  obtain ⟨o, es, ep, ho, hc, hd, hk, hp, hn⟩ := hm
  have small : es.size ≤ sizeLine := by
    have e1 := hp.length
    have e2 : es.toList.length = es.size := by simp
    omega
  unfold dictPut
  refine wpAny_bind (wpAny_dictFind_of hkey ho hd hk ?_)
  have same : (es.findIdx? fun e => knd.is k e.key) = kvs.findIdx? fun kv => decide (kv.1 = k) := by
    rw [← hp.findIdx k]
    obtain ⟨l⟩ := es
    simp
  cases hi : es.findIdx? fun e => knd.is k e.key with
  | some i =>
    refine wpAny_updateDict ho hd (go _ ⟨_, _, ep, Heap.get?_update_self _ ho (Obj.isFreed_of_dict (Obj.data_mapDict hd _)), hc.mapDict _, Obj.data_mapDict hd _, hk.modify _ _, ?_, ?_⟩ (Heap.SameBut.update ..))
    · rw [stored, if_pos (any_of_findIdx_some (same ▸ hi))]
      have found : (es.toList.findIdx? fun e => knd.is k e.key) = some i := by
        rw [← hi]
        obtain ⟨l⟩ := es
        simp
      have new := hp.modify hn found v
      obtain ⟨l⟩ := es
      simpa using new
    · rw [stored, if_pos (any_of_findIdx_some (same ▸ hi)), keys_map_store]
      exact hn
  | none =>
    have out : k ∉ kvs.map (·.1) := not_mem_of_findIdx_none (same ▸ hi)
    have no : ¬ (kvs.any fun kv => decide (kv.1 = k)) = true := by
      rw [List.any_eq_true]
      rintro ⟨kv, hkv, he⟩
      exact out (List.mem_map.mpr ⟨kv, hkv, of_decide_eq_true he⟩)
    refine wpAny_updateDictKeys (hz := small) ho hd (go _ ⟨_, _, ep + 1, Heap.get?_update_self _ ho (Obj.isFreed_of_dict (Obj.data_mapDictKeys hd _)), hc.mapDictKeys _, Obj.data_mapDictKeys hd _, hk.push hkey _, ?_, ?_⟩ (Heap.SameBut.update ..))
    · rw [stored, if_neg no]
      have new := hp.append hkey (knd.hash k) v
      obtain ⟨l⟩ := es
      simpa using new
    · rw [stored, if_neg no, List.map_append, List.nodup_append]
      exact ⟨hn, by simp, fun a ha b hb e => by
        simp only [List.map_cons, List.map_nil, List.mem_singleton] at hb
        exact out (hb ▸ e ▸ ha)⟩
theorem merge_run (hnr : ∀ k key, knd.is k key = true → ∀ a, key ≠ .ref a) {d o : Addr} {kvs more : List (K × Value)} {Q : Unit → Shared → Prop} (hdo : d ≠ o) (hoS : (o == sysModules) = false) (hd : s.heap.DictOf knd d kvs) (ho : s.heap.DictOf knd o more) (hsz : kvs.length + more.length ≤ sizeLine)
    (go : ∀ h', h'.DictOf knd d (merged kvs more) → h'.DictOf knd o more → Heap.SameBut d s.heap h' → Q () { s with heap := h' }) : wpAny (model prog w) A (mergeMapping d (.ref o) false) Q E s := by
  have hT : s.TypeIs (.ref o) "dict" := ho.typeIs
  obtain ⟨od, esd, epd, hod, hcd, hdd, hkd, hpd, hnd⟩ := id hd
  obtain ⟨oo, eso, epo, hoo, hco, hdo', hko, hpo, hno⟩ := id ho
  have hlen : more.length = eso.size := by
    rw [← hpo.length]
    simp
  unfold mergeMapping
  refine wpAny_bind (wpAny_isInstance hT isSubtype_dict_dict ?_)
  simp only [if_true]
  refine wpAny_bind (wpAny_specialOf hT F.slot_dict_iter.lookup ?_)
  have go2 : wpAny (model prog w) A (do
      let l ← dictEntries o
      let epoch ← dictEpoch o
      forIn (List.range l.size) PUnit.unit fun i (_ : PUnit) => (do
          let l' ← dictEntries o
          match l'[i]? with
            | some e => do
              holding [e.key, e.val]
                (if false = true then do
                  let b ← dictFind d e.key e.hash
                  if b.isSome = true then do
                      rule "dict.merge.duplicate-key"
                      let x ← newExc (Value.type "KeyError") [e.key]
                      (raiseNew x : Sem PUnit)
                      dictPut d e.hash e.key e.val
                    else dictPut d e.hash e.key e.val
                else dictPut d e.hash e.key e.val)
              let ep' ← dictEpoch o
              if (ep' != epoch) = true then do
                  (unsupported "dict.changed-during-merge" : Sem PUnit)
                  pure (ForInStep.yield PUnit.unit)
                else pure (ForInStep.yield PUnit.unit)
            | _ => do
              (unsupported "dict.changed-during-merge" : Sem PUnit)
              pure (ForInStep.yield PUnit.unit) : Sem (ForInStep PUnit))
      pure ()) Q E s := by
    refine wpAny_bind (wpAny_dictEntries hoo hdo' (wpAny_bind (wpAny_dictEpoch hoo hdo' (wpAny_bind ?_))))
    rw [List.range_eq_range']
    refine wpAny_forIn_list _ (fun rest _ t => ∃ h' i, t = { s with heap := h' } ∧ rest = List.range' i (eso.size - i) ∧ i ≤ eso.size ∧ h'.DictOf knd d (merged kvs (more.take i)) ∧ h'.get? o = some oo ∧ Heap.SameBut d s.heap h')
      _ ?_ ?_ _ _ ⟨s.heap, 0, rfl, by simp, Nat.zero_le _, by simpa [merged] using hd, hoo, Heap.SameBut.refl _ _⟩
    · rintro x rest b t ⟨h', i, rfl, hr, hi, hd', hoo', hs'⟩
      have lt : i < eso.size := by
        rcases Nat.lt_or_ge i eso.size with h | h
        · exact h
        · rw [Nat.sub_eq_zero_of_le h] at hr
          simp at hr
      obtain ⟨rfl, tail⟩ : x = i ∧ rest = List.range' (i + 1) (eso.size - (i + 1)) := by
        have e : eso.size - i = (eso.size - (i + 1)) + 1 := by omega
        rw [e, List.range'_succ] at hr
        injection hr with h1 h2
        exact ⟨h1, h2⟩
      refine wpAny_bind (wpAny_dictEntries hoo' hdo' ?_)
      rw [Array.getElem?_eq_getElem lt]
      obtain ⟨⟨k, v⟩, hkv⟩ : ∃ kv, more[x]? = some kv := ⟨more[x]'(by rw [hlen]; exact lt), List.getElem?_eq_getElem _⟩
      obtain ⟨hkey, hval⟩ := hpo.get? (e := eso[x]) (by simp [lt]) hkv
      obtain ⟨k', hkey', hhash⟩ := hko eso[x] (Array.getElem_mem lt)
      obtain rfl : k' = k := knd.inj _ _ _ hkey' hkey
      have room : (merged kvs (more.take x)).length ≤ sizeLine := by
        have e1 := merged_length_le kvs (more.take x)
        have e2 : (more.take x).length ≤ more.length := by rw [List.length_take]; omega
        omega
      refine wpAny_bind (wpAny_holding ?_)
      rw [if_neg Bool.false_ne_true, hhash, hval]
      refine put_pairs hkey hd' room fun h'' hd'' hs'' => ?_
      have hoo'' : h''.get? o = some oo := (hs''.2 o (Ne.symm hdo)).trans hoo'
      refine wpAny_bind (wpAny_dictEpoch hoo'' hdo' ?_)
      rw [if_neg (by simp)]
      exact wpAny_pure ⟨h'', x + 1, rfl, tail, lt, by rw [merged_take_succ kvs more x (k', v) hkv]; exact hd'', hoo'', hs'.trans hs''⟩
    · rintro b t ⟨h', i, rfl, hr, hi, hd', hoo', hs'⟩
      have full : i = eso.size := by
        rcases Nat.lt_or_ge i eso.size with h | h
        · have e : eso.size - i = (eso.size - (i + 1)) + 1 := by omega
          rw [e, List.range'_succ] at hr
          exact nomatch hr
        · exact Nat.le_antisymm hi h
      refine wpAny_pure (go h' ?_ ⟨oo, eso, epo, hoo', hco, hdo', hko, hpo, hno⟩ hs')
      rw [full, ← hlen, List.take_length] at hd'
      exact hd'
  simp only [beq_self_eq_true]
  refine wpAny_bind (wpAny_pure ?_)
  show wpAny (model prog w) A (if (o == sysModules) = true then _ else _) Q E s
  rw [if_neg (by rw [hoS]; exact Bool.false_ne_true)]
  refine wpAny_bind (wpAny_dictEntries hod hdd ?_)
  split
  · refine wpAny_bind (wpAny_dictEntries hoo hdo' (wpAny_bind ?_))
    rw [← Array.forIn_toList]
    refine wpAny_forIn_list _ (fun rest _ t => t = s ∧ ∀ e ∈ rest, ∀ a, e.key ≠ .ref a) _ ?_ ?_ _ _ ⟨rfl, fun e he => ?_⟩
    · rintro e rest b t ⟨rfl, hn⟩
      split
      · rename_i a ha
        exact absurd ha (hn e List.mem_cons_self a)
      · exact wpAny_pure ⟨rfl, fun e' he' => hn e' (List.mem_cons_of_mem _ he')⟩
    · rintro b t ⟨rfl, -⟩
      exact go2
    · obtain ⟨k, hk, -⟩ := hko e (Array.mem_toList_iff.mp he)
      exact hnr k _ hk
  · exact go2
/-- the display {**m, k: v} -/
theorem show_two (hnr : ∀ k key, knd.is k key = true → ∀ a, key ≠ .ref a) {m k v : Sem Value} {Q : Value → Shared → Prop}
    (h : wpAny (model prog w) A m (fun r s1 => ∃ a kvs, r = .ref a ∧ a ≠ s.heap.objs.size ∧ (a == sysModules) = false ∧ s1.heap.DictOf knd s.heap.objs.size [] ∧ s1.heap.DictOf knd a kvs ∧ kvs.length < sizeLine ∧
      ∀ h1, h1.DictOf knd s.heap.objs.size kvs → Heap.SameBut s.heap.objs.size s1.heap h1 → wpAny (model prog w) A k (fun y s2 => wpAny (model prog w) A v (fun z s3 =>
        ∃ kk now, knd.is kk y = true ∧ s.heap.objs.size ≠ h1.objs.size ∧ (h1.objs.size == sysModules) = false ∧ s3.heap.DictOf knd h1.objs.size [] ∧ s3.heap.DictOf knd s.heap.objs.size now ∧ now.length < sizeLine ∧
        ∀ h2 h3, h2.DictOf knd h1.objs.size [(kk, z)] → Heap.SameBut h1.objs.size s3.heap h2 → h3.DictOf knd s.heap.objs.size (stored now kk z) → Heap.SameBut s.heap.objs.size h2 h3 → h3.DictOf knd h1.objs.size [(kk, z)] → Q (.ref s.heap.objs.size) { s3 with heap := h3, toks := s3.toks + 1 }) E s2) E
        { s1 with heap := h1.push { cls := .type "dict", data := .dict #[] } }) E { s with heap := s.heap.push { cls := .type "dict", data := .dict #[] } }) :
    wpAny (model prog w) A (dictDisplay [(none, m), (some k, v)]) Q E s := by
  unfold dictDisplay
  simp only [List.forIn_cons, List.forIn_nil, pure_bind, bind_assoc, List.isEmpty_nil, if_true, List.nil_append, List.length_singleton]
  refine wpAny_bind (wpAny_alloc (wpAny_bind (wpAny_holding (wpAny_mono h (fun r s1 h1 => ?_) fun _ _ e => e))))
  obtain ⟨a, kvs, rfl, ne, hs, he, ha, hz, h1⟩ := h1
  refine wpAny_bind (wpAny_onRaise (wpAny_tryCatch (wpAny_onRaise (wpAny_holding (merge_run hnr (Ne.symm ne) hs he ha (by simpa using Nat.le_of_lt hz) fun g1 hd1 ha1 hs1 => ?_)))))
  rw [merged_nil_of_nodup kvs (let ⟨_, _, _, _, _, _, _, _, n⟩ := ha; n)] at hd1
  refine wpAny_bind (wpAny_pure ?_)
  refine wpAny_bind (wpAny_pure ?_)
  refine wpAny_bind (wpAny_bind (wpAny_holding (wpAny_subDict (knd := knd) (by simp) (evalPairs_cons (wpAny_mono (h1 g1 hd1 hs1) (fun y s2 h2 => wpAny_mono h2 (fun z s3 h3 => evalPairs_nil ?_) fun _ _ e => e) fun _ _ e => e)))))
  obtain ⟨kk, now, hk, nf, hsf, hf, hd2, hz2, h4⟩ := h3
  refine ⟨[(kk, z)], ⟨hk, rfl, True.intro⟩, hf, fun g2 hf2 hs2 => ?_⟩
  have hf3 : g2.DictOf knd g1.objs.size [(kk, z)] := hf2
  refine wpAny_bind (wpAny_onRaise (wpAny_holding (merge_run hnr nf hsf (hd2.sameBut hs2 nf) hf3 (show now.length + 1 ≤ sizeLine from hz2) fun g3 hd3 hf4 hs3 => ?_)))
  exact wpAny_pure (wpAny_pure (h4 g2 g3 hf3 hs2 hd3 hs3 hf4))
end
end AGX
end PySem
namespace AG
open PySem PySem.Spec PyProof.Rows L2 AGX
theorem mix_noref {P : Program} {w : World} (k : Key) (key : Value) (h : (mixKind P w).is k key = true) (a : Addr) : key ≠ .ref a := by
  rintro rfl
  rcases keyIs_shape h with ⟨_, _, _, e⟩ | ⟨_, _, _, e⟩ <;> exact nomatch e
/-- {**m, k: v}, the key a text -/
def tMerge (tm tk tv : TE) : TE := fun σ H Q => ∀ D, H D = none → tm σ (upd H D (.dK [])) fun x H1 => ∃ a kvs, x = .ref a ∧ a ≠ D ∧ H1 a = some (.dK kvs) ∧ H1 D = some (.dK []) ∧ kvs.length < sizeLine ∧
  ∀ S, upd H1 D (.dK kvs) S = none → tk σ (upd (upd H1 D (.dK kvs)) S (.dK [])) fun y H3 => tv σ H3 fun z H4 => ∃ kk, y = kV kk ∧ H4 S = some (.dK []) ∧ H4 D = some (.dK kvs) ∧
    Q (.ref D) (upd (upd H4 S (.dK [(kk, z)])) D (.dK (putK kvs kk z)))
section
variable {X : Cx} {cm ck cv : Expr} {pos : Pos} {tm tk tv : TE}
theorem pe_merge (hm : PE X cm tm) (hk : PE X ck tk) (hv : PE X cv tv) : PE X (.Dict [none, some ck] [cm, cv] pos) (tMerge tm tk tv) := by
  refine ⟨fun pins s σ H Q I q => ?_⟩
  have hn := I.hok.fresh (Nat.le_refl s.heap.objs.size)
  have I1 := I.laid (a := s.heap.objs.size) (o := .dK []) (h' := s.heap.push { cls := .type "dict", data := .dict #[] }) (t' := s.toks) (fun _ _ q => Heap.get?_push_of_some _ q) (Nat.le_refl _) (dk_empty s.heap I.big)
  rw [arm_eval_Dict]
  refine wpAny_bind (wpAny_standAt ?_)
  show wpAny _ _ (dictDisplay [(none, do let x ← eval cm X.env; standAt pos; pure x), (some (eval ck X.env), do let x ← eval cv X.env; standAt pos; pure x)]) _ _ s
  refine show_two (knd := mixKind X.prog X.w) mix_noref (wpAny_bind (thn (hm.run pins _ σ _ _ I1 (q _ hn)) fun r s1 ⟨x, H1, I2, rx, a, kvs, ex, ne, ea, eD, hz, q2⟩ => wpAny_bind (wpAny_standAt (wpAny_pure ?_))))
  subst ex
  obtain rfl : r = Value.ref a := rx
  obtain ⟨_, hs, vs, rel, dd⟩ := dk_of I2.hok ea
  obtain ⟨_, _, vs0, r0, d0⟩ := dk_of I2.hok eD
  cases r0
  have hz' : vs.length < sizeLine := by rw [← rel.length]; exact hz
  refine ⟨a, vs, rfl, ne, hs, d0, dd, hz', fun g1 hd1 hs1 => ?_⟩
  have hDs : (s.heap.objs.size == sysModules) = false := beq_eq_false_iff_ne.mpr (Ne.symm (Nat.ne_of_lt I.big))
  have I3 : Inv X pins σ (upd H1 s.heap.objs.size (.dK kvs)) { s1 with heap := g1 } := d_write I2 (by rw [eD]; exact True.intro) hs1 (let ⟨q, _, _, hq, _⟩ := hd1; ⟨q, hq⟩) (dk_new (Nat.le_of_lt hz) hDs rel hd1)
  have hn3 := I3.hok.fresh (Nat.le_refl g1.objs.size)
  have I4 := I3.laid (a := g1.objs.size) (o := .dK []) (h' := g1.push { cls := .type "dict", data := .dict #[] }) (t' := s1.toks) (fun _ _ q => Heap.get?_push_of_some _ q) (Nat.le_refl _) (dk_empty g1 I3.big)
  refine thn (hk.run pins _ σ _ _ I4 (q2 _ hn3)) fun ky s2 ⟨y, H3, I5, ry, q3⟩ => wpAny_bind (thn (hv.run pins _ σ _ _ I5 q3) fun kz s3 ⟨z, H4, I6, rz, kk, ey, eS, eD4, q4⟩ => wpAny_bind (wpAny_standAt (wpAny_pure ?_)))
  subst ey
  obtain ⟨_, hSs, vs1, r1, d1⟩ := dk_of I6.hok eS
  cases r1
  obtain ⟨_, _, vs4, r4, d4⟩ := dk_of I6.hok eD4
  have nf : s.heap.objs.size ≠ g1.objs.size := fun e => by
    have e3 : upd H1 s.heap.objs.size (.dK kvs) g1.objs.size = none := hn3
    rw [← e, upd, if_pos rfl] at e3
    exact nomatch e3
  have hz4 : vs4.length < sizeLine := by rw [← r4.length]; exact hz
  refine ⟨kk, vs4, kV_is ry, nf, hSs, d1, d4, hz4, fun g2 g3 hf2 hs2 hd3 hs3 hf3 => ⟨.ref s.heap.objs.size, _, ?_, rfl, q4⟩⟩
  have J1 : Inv X pins σ (upd H4 g1.objs.size (.dK [(kk, z)])) { s3 with heap := g2, toks := s3.toks } := d_write I6 (by rw [eS]; exact True.intro) hs2 (let ⟨q, _, _, hq, _⟩ := hf2; ⟨q, hq⟩) (dk_new (show 1 ≤ sizeLine by rw [sizeLine_eq]; omega) hSs (.cons ⟨rfl, rz⟩ .nil) hf2)
  exact d_write (s := { s3 with heap := g2 }) J1 (by rw [upd_ne nf, eD4]; exact True.intro) hs3 (let ⟨q, _, _, hq, _⟩ := hd3; ⟨q, hq⟩) (dk_new (by have := length_putK kvs kk z; omega) hDs (r4.put kk rz) hd3)
end
end AG
namespace AG
open PySem PySem.Spec PyProof.Rows L2
/-- the first that is recalled and not there -/
def lost (es : List Ent) (xs : List Str) : Option Str := xs.find? fun y => !decide (has es y)
/-- what speaks against an entry -/
noncomputable def need (es : List Ent) (x : Str) : Option Er := match lost es (rclOf es x) with
  | some y => some (.unknown y)
  | none => if x ∈ rests es x then some (.circ x) else none
/-- a call's end: an error, or what follows -/
def Ends (c : Cs) (r : Option Er) (H : Hp) (E : XK) (q : Prop) : Prop := match r with
  | some e => Raise c e H E
  | none => q
theorem Raise.same {c : Cs} {e : Er} {H H' : Hp} {E : XK} (r : Raise c e H E) (s : Same H H') : Raise c e H' E := fun d H2 s2 h => r d H2 (s.trans s2) h
theorem lost_take {es : List Ent} : ∀ {xs : List Str}, lost es xs = none → ∀ y ∈ xs, has es y := fun {xs} h y hy => by
  have := List.find?_eq_none.mp h y hy
  simpa using this
theorem lost_at {es : List Ent} {xs : List Str} {i : Nat} {y : Str} (h : lost es (xs.take i) = none) (hy : xs[i]? = some y) (n : ¬ has es y) : lost es xs = some y := by
  have e : xs = xs.take i ++ y :: xs.drop (i + 1) := by
    have h2 := List.getElem?_eq_some_iff.mp hy
    obtain ⟨h2, h3⟩ := h2
    rw [← h3, List.getElem_cons_drop, List.take_append_drop]
  unfold lost at h ⊢
  rw [e, List.find?_append, h, Option.none_or, List.find?_cons, decide_eq_false n]
  rfl
theorem lost_next {es : List Ent} {xs : List Str} {i : Nat} {y : Str} (h : lost es (xs.take i) = none) (hy : xs[i]? = some y) (n : has es y) : lost es (xs.take (i + 1)) = none := by
  unfold lost at h ⊢
  rw [take_succ hy, List.find?_append, h, Option.none_or, List.find?_cons, decide_eq_true n]
  rfl
section
variable {P : Program} {w : World} {K : PySem.W.Frag} {mg : Str → Option Value} {base : Heap} {c : Cs}
def spNeedR (c : Cs) : Sp := fun vs H Q E => ∃ (Mu : Mut1) (d : Addr) (es : List Ent) (x : Str), vs = [.ref d, .str x] ∧ Wl Mu H ∧ Cont c Mu H d es ∧ (∀ e ∈ es, EntOk e) ∧ es.length ≤ 8 ∧ has es x ∧ Ends c (need es x) H E (∀ H', Same H H' → Q .non H')
theorem sc_need_recalled : FnScope ["content", "name", "late"] ["content", "name"] (defScope s_need_recalled) := ⟨rfl, rfl, rfl, by decide +kernel, rfl, by decide +kernel, by decide +kernel⟩
theorem ok_need_recalled (T : Txt w K mg c) (R : Exs P K mg c) : Def P w K mg base (L2.CX P w) "need_recalled" ["content", "name"] 6 (spNeedR c) := by
  refine T.d_need_recalled.def_ sc_need_recalled (fun vs H Q E ⟨_, _, _, _, e, _⟩ => by rw [e]; rfl) (fun _ _ _ _ _ _ us hl => match us, hl with | [_, _], _ => rfl) fun f cdv A outer s H vs Q E hr h => ?_
  obtain ⟨Mu, d, es, x, rfl, wl, ct, ok, hl, hx, q⟩ := h
  have hu := hu_of hr
  refine ⟨_, (pss_cons (ps_for (passes_of rfl) rfl (pi_list (mcall0 (ok_Script_recalled T) hr (by decide) pass0 (pe_ix ix_tup (pe_dget hu (pv 0) (pv 1) (fun _ _ => rfl)) pe_int (fun _ _ => rfl)))) (pg_name (i := 2) sc_need_recalled.nd rfl (Or.inl rfl)) (pss_one (ps_if (pt_cmp (pc_dnotin hu (pv 2) (pv 0))) (pss_one (ps_raiseX rfl R.unknown hr (takes_of rfl rfl rfl rfl) (pa_cons (pv 2) pa_nil))) pss_nil)))
      (pss_one (ps_if (pt_cmpR op_inC (pv 1) (dcall (ok_rests_on T) hr (by decide) pass0 (pa_cons (pv 0) (pa_cons (pv 1) pa_nil))) rfl) (pss_one (ps_raiseX rfl R.circ hr (takes_of rfl rfl rfl rfl) (pa_cons (pv 1) pa_nil))) pss_nil))), ?_⟩
  have ct0 := ct
  obtain ⟨md, kvs, hd, re⟩ := ct
  obtain ⟨e, he, hem, hen⟩ := ent_some hx
  have okE := ok e hem
  have erc : rclOf es x = e.rcl := by
    unfold rclOf
    rw [he]
  obtain ⟨v, hv, ev⟩ := re.get he
  obtain ⟨av, kx, g, sx, rfl, mv, hv2, _, _, hsx⟩ := ev
  have hsx0 := hsx
  obtain ⟨t, u, ⟨as, dx, rfl, ms, hs⟩, _, _⟩ := hsx
  refine ⟨_, rfl, _, rfl, d, _, rfl, dgetV (.inl hd) hv, av, _, _, _, rfl, rfl, SqT.of hv2, rfl, as, dx, _, rfl, hs, rfl, Mu, .ref as, e.cmds, rfl, wl, hsx0, okE.co, okE.cl, fun p7 H7 s7 d7 n7 => ?_⟩
  obtain ⟨_, xs7, e7, m7, h7, r7⟩ := d7.asLst
  cases e7
  have e8 : xs7 = e.rcl.map V.str := dats_strs_eq r7
  subst e8
  refine ⟨p7, rfl, ⟨_, SqL.of h7⟩, ?_⟩
  refine for_it walk_list (fun i σ Hj => ∃ x2, σ = [some (V.ref d), some (V.str x), x2] ∧ Same H7 Hj ∧ lost es (e.rcl.take i) = none) ⟨_, rfl, .refl _, rfl⟩ (fun i σ Hj _ ⟨_, _, sj, _⟩ => SqL.of (sj _ _ h7)) ?_ ?_
  · rintro i x0 σ Hj Hj' hi ⟨x2, rfl, sj, lo⟩ ⟨rfl, hx0⟩
    obtain ⟨z, hz, rfl⟩ := map_at hx0
    refine ⟨_, rfl, _, rfl, d, _, rfl, dgetE (.inl (sj _ _ (s7 _ _ hd))) z, _, rfl, ?_⟩
    rw [re.has z]
    by_cases hz1 : has es z
    · rw [decide_eq_true hz1]
      exact iteF ⟨_, rfl, sj, lost_next lo hz hz1⟩
    · rw [decide_eq_false hz1]
      refine iteT ⟨_, rfl, ⟨_, rfl⟩, fun d1 n1 => ?_⟩
      have hn : need es x = some (.unknown z) := by
        unfold need
        rw [erc, lost_at lo hz hz1]
      rw [hn] at q
      exact q d1 _ ((s7.trans sj).trans (same_new n1)) upd_same
  · rintro σ Hj ⟨x2, rfl, sj, lo⟩
    rw [List.length_map, List.take_length] at lo
    have s8 := s7.trans sj
    have hn : need es x = if x ∈ rests es x then some (.circ x) else none := by
      unfold need
      rw [erc, lo]
    refine ⟨_, rfl, _, rfl, _, rfl, Mu, d, es, x, rfl, wl.same s8, ct0.keep (.ofSame s8), ok, hl, hx, fun p9 H9 s9 d9 n9 => ?_⟩
    obtain ⟨_, xs9, e9, m9, h9, r9⟩ := d9.asLst
    cases e9
    have e10 : xs9 = (rests es x).map V.str := dats_strs_eq r9
    subst e10
    refine ⟨_, _, rfl, .inl (SqL.of h9), rfl, flat_strs _, fun z => ?_, fun z => ?_⟩
    · rw [inV_strs] at z
      rw [hn, if_pos (of_decide_eq_true z)] at q
      exact ⟨_, rfl, iteT ⟨_, rfl, ⟨_, rfl⟩, fun d1 n1 => q d1 _ ((s8.trans s9).trans (same_new n1)) upd_same⟩⟩
    · rw [inV_strs] at z
      rw [hn, if_neg (of_decide_eq_false z)] at q
      exact ⟨_, rfl, iteF (q _ (s8.trans s9))⟩
end
end AG
namespace AG
open PySem PySem.Spec PyProof.Rows L2
/-! ### deeds -/
inductive Deed where
  | fact (x : Str) (rows : List Row) (goal : Fm) (cmds : List Cm)
  | script (x : Str) (cmds : List Cm)
  | drop (x : Str)
def Deed.name : Deed → Str
  | .fact x _ _ _ => x
  | .script x _ => x
  | .drop x => x
def DeedOk : Deed → Prop
  | .fact x rs g cs => EntOk ⟨x, rs, g, cs⟩
  | .script x cs => NameOk x ∧ (∀ d ∈ cs, d.ok) ∧ cs.length ≤ 8
  | .drop x => NameOk x
theorem DeedOk.nm : ∀ {dd : Deed}, DeedOk dd → NameOk dd.name
  | .fact _ _ _ _, h => EntOk.nm h
  | .script _ _, h => h.1
  | .drop _, h => h
/-- an entry set -/
def setE (es : List Ent) (e : Ent) : List Ent := if has es e.name then es.map (fun f => if f.name = e.name then e else f) else es ++ [e]
def dropE (es : List Ent) (x : Str) : List Ent := es.filter fun e => decide (e.name ≠ x)
/-- set, and looked at -/
noncomputable def tryE (es : List Ent) (e : Ent) : Er ⊕ List Ent := match need (setE es e) e.name with
  | some r => .inl r
  | none => .inr (setE es e)
/-- the content behind a deed -/
noncomputable def after (es : List Ent) (lim : Nat) : Deed → Er ⊕ List Ent
  | .fact x rs g cs => if ¬ has es x ∧ lim ≤ es.length then .inl (.full lim) else tryE es ⟨x, rs, g, cs⟩
  | .script x cs => match ent? es x with
    | none => .inl (.unknown x)
    | some e => tryE es ⟨x, e.rows, e.goal, cs⟩
  | .drop x => if has es x then (match users es x with
    | u :: _ => .inl (.inuse u)
    | [] => .inr (dropE es x)) else .inl (.unknown x)
/-! ### what they are like -/
theorem names_set_map {es : List Ent} {e : Ent} : names (es.map fun f => if f.name = e.name then e else f) = names es := by
  unfold names
  rw [List.map_map]
  refine List.map_congr_left fun f _ => ?_
  show (if f.name = e.name then e else f).name = f.name
  split
  · rename_i h
    exact h.symm
  · rfl
theorem has_setE {es : List Ent} {e : Ent} {x : Str} : has (setE es e) x ↔ has es x ∨ x = e.name := by
  unfold setE
  split
  · rename_i h
    unfold has
    rw [names_set_map]
    exact ⟨.inl, fun z => z.elim id fun q => q ▸ h⟩
  · unfold has names
    rw [List.map_append, List.mem_append, List.map_singleton, List.mem_singleton]
theorem mem_setE {es : List Ent} {e f : Ent} (h : f ∈ setE es e) : f ∈ es ∨ f = e := by
  unfold setE at h
  split at h
  · obtain ⟨g, hg, q⟩ := List.mem_map.mp h
    split at q
    · exact .inr q.symm
    · exact .inl (q ▸ hg)
  · rw [List.mem_append, List.mem_singleton] at h
    exact h
theorem ok_setE {es : List Ent} {e : Ent} (h : ∀ f ∈ es, EntOk f) (k : EntOk e) : ∀ f ∈ setE es e, EntOk f := fun f hf => (mem_setE hf).elim (h f) fun q => q ▸ k
theorem len_setE (es : List Ent) (e : Ent) : (setE es e).length = if has es e.name then es.length else es.length + 1 := by
  unfold setE
  split
  · rw [List.length_map]
  · rw [List.length_append]
    rfl
theorem nd_setE {es : List Ent} {e : Ent} (h : (names es).Nodup) : (names (setE es e)).Nodup := by
  unfold setE
  split
  · rw [names_set_map]
    exact h
  · rename_i n
    unfold names
    rw [List.map_append]
    exact List.nodup_append.mpr ⟨h, by simp, fun a ha b hb q => n (by
      rw [List.map_singleton, List.mem_singleton] at hb
      exact hb ▸ q ▸ ha)⟩
theorem KvE.set {c : Cs} {Mu : Mut1} {H : Hp} {v : V} {e : Ent} (ev : EntV c Mu H v e) : ∀ {kvs : List (Key × V)} {es : List Ent}, KvE c Mu H kvs es → KvE c Mu H (kvs.map fun kv => if kv.1 = Sum.inr e.name then (kv.1, v) else kv) (es.map fun f => if f.name = e.name then e else f)
  | _, _, .nil => .nil
  | p :: kvs, f :: es, .cons h t => by
    refine .cons ?_ (KvE.set ev t)
    dsimp only
    by_cases q : f.name = e.name
    · rw [if_pos q, if_pos (by rw [h.1, q])]
      exact ⟨by rw [h.1, q], ev⟩
    · rw [if_neg q, if_neg (by rw [h.1]; exact fun z => q (Sum.inr.inj z))]
      exact h
theorem any_val {x : Key} : ∀ kvs : List (Key × V), (kvs.any fun kv => decide (kv.1 = x)) = (valV kvs x).isSome
  | [] => rfl
  | p :: r => by
    rw [List.any_cons]
    by_cases e : p.1 = x
    · rw [valV_pos e, decide_eq_true e]
      rfl
    · rw [valV_neg e, decide_eq_false e, Bool.false_or]
      exact any_val r
theorem KvE.put {c : Cs} {Mu : Mut1} {H : Hp} {v : V} {e : Ent} {kvs : List (Key × V)} {es : List Ent} (h : KvE c Mu H kvs es) (ev : EntV c Mu H v e) : KvE c Mu H (putK kvs (Sum.inr e.name) v) (setE es e) := by
  unfold putK setE
  rw [any_val, h.has]
  by_cases q : AG.has es e.name
  · rw [decide_eq_true q, if_pos rfl, if_pos q]
    exact h.set ev
  · rw [decide_eq_false q, if_neg Bool.false_ne_true, if_neg q]
    exact Paired.snoc h ⟨rfl, ev⟩
/-- what stands for a deed -/
def DeedV (c : Cs) (Mu : Mut1) (H : Hp) (v : V) : Deed → Prop
  | .fact x rs g cs => ∃ a k gv s, v = .ref a ∧ ¬ Mu a ∧ H a = some (.tup [.str "fact", .str x, k, gv, s]) ∧ Ctx c Mu H k rs ∧ Dat Mu H gv g.d ∧ Scr c Mu H s cs
  | .script x cs => ∃ a s, v = .ref a ∧ ¬ Mu a ∧ H a = some (.tup [.str "script", .str x, s]) ∧ Scr c Mu H s cs
  | .drop x => ∃ a, v = .ref a ∧ ¬ Mu a ∧ H a = some (.tup [.str "drop", .str x])
theorem DeedV.keep {c : Cs} {Mu : Mut1} {H H' : Hp} {v : V} : ∀ {dd : Deed}, DeedV c Mu H v dd → Kp Mu H H' → DeedV c Mu H' v dd
  | .fact .., ⟨a, x, g, s, e, m, h, h1, h2, h3⟩, k => ⟨a, x, g, s, e, m, k.at_ _ _ m h, h1.keep k, h2.keep k, h3.keep k⟩
  | .script .., ⟨a, s, e, m, h, h3⟩, k => ⟨a, s, e, m, k.at_ _ _ m h, h3.keep k⟩
  | .drop .., ⟨a, e, m, h⟩, k => ⟨a, e, m, k.at_ _ _ m h⟩
theorem off {Mu Mv : Mut1} {H : Hp} {a : Addr} {o : HO} (g : ∀ b, Mv b → Mu b ∨ H b = none) (m : ¬ Mu a) (h : H a = some o) : ¬ Mv a := fun q => (g _ q).elim m fun n => by
  rw [n] at h
  cases h
theorem DeedV.grow {c : Cs} {Mu Mv : Mut1} {H : Hp} {v : V} (g : ∀ b, Mv b → Mu b ∨ H b = none) : ∀ {dd : Deed}, DeedV c Mu H v dd → DeedV c Mv H v dd
  | .fact .., ⟨a, x, y, s, e, m, h, h1, h2, h3⟩ => ⟨a, x, y, s, e, off g m h, h, h1.grow g, h2.grow g, h3.grow g⟩
  | .script .., ⟨a, s, e, m, h, h3⟩ => ⟨a, s, e, off g m h, h, h3.grow g⟩
  | .drop .., ⟨a, e, m, h⟩ => ⟨a, e, off g m h, h⟩
end AG
namespace AG
open PySem PySem.Spec PyProof.Rows L2
section
variable {P : Program} {w : World} {K : PySem.W.Frag} {mg : Str → Option Value} {base : Heap} {c : Cs}
/-- the content's end -/
def EndC (c : Cs) (Mu : Mut1) (r : Er ⊕ List Ent) (H : Hp) (Q : VK) (E : XK) : Prop := match r with
  | .inl e => Raise c e H E
  | .inr l => ∀ d' H', Same H H' → H d' = none → Cont c Mu H' d' l → Q (.ref d') H'
def spBehind (c : Cs) : Sp := fun vs H Q E => ∃ (Mu : Mut1) (d : Addr) (es : List Ent) (v : V) (dd : Deed) (lim : Nat), vs = [.ref d, v, .int lim] ∧ Wl Mu H ∧ Cont c Mu H d es ∧ (∀ e ∈ es, EntOk e) ∧ (names es).Nodup ∧ es.length ≤ 7 ∧ DeedV c Mu H v dd ∧ DeedOk dd ∧ EndC c Mu (after es lim dd) H Q E
theorem sc_behind : FnScope ["content", "deed", "limit", "word", "name", "late", "users", "key"] ["content", "deed", "limit"] (defScope s_behind) := ⟨rfl, rfl, rfl, by decide +kernel, rfl, by decide +kernel, by decide +kernel⟩
theorem EndC.same {Mu : Mut1} {r : Er ⊕ List Ent} {H H' : Hp} {Q : VK} {E : XK} (s : Same H H') (h : EndC c Mu r H Q E) : EndC c Mu r H' Q E := by
  cases r with
  | inl e => exact Raise.same h s
  | inr l => exact fun d' H2 s2 n k => h d' H2 (s.trans s2) (s.free n) k
/-- set, looked at, told -/
theorem tail {Mu : Mut1} {H : Hp} {d : Addr} {es : List Ent} {e : Ent} {v1 v2 v3 : V} {Q : VK} {E : XK} {D : L2.Ends} {tv : TE} (hD : D.rt = Q) (wl : Wl Mu H) (ct : Cont c Mu H d es) (ok : ∀ e ∈ es, EntOk e) (hl : es.length ≤ 7) (oe : EntOk e)
    (hv : ∀ H3, Same H H3 → ∀ Qk : VK, (∀ z H4, Same H3 H4 → EntV c Mu H4 z e → Qk z H4) → tv [some (.ref d), some v1, some v2, some v3, some (.str e.name), none, none, none] H3 Qk) (q : EndC c Mu (tryE es e) H Q E) :
    tSeq (tAsg (tMerge (tVar 0) (tVar 4) tv) (gName 5)) (tSeq (tDrop (tCall (spNeedR c) [] E (tCons (tVar 5) (tCons (tVar 4) tNil)))) (tRet (tVar 5))) D [some (.ref d), some v1, some v2, some v3, some (.str e.name), none, none, none] H := by
  have ct0 := ct
  obtain ⟨md, kvs, hd, re⟩ := ct
  intro F hF
  have nFd : d ≠ F := ne_of_none hd hF
  refine ⟨_, rfl, d, kvs, rfl, nFd, by rw [upd_ne nFd]; exact hd, upd_same, ?_, fun S hS => ?_⟩
  · rw [re.len]
    exact Nat.lt_of_le_of_lt hl (by decide)
  have nSF : S ≠ F := fun z => by
    rw [z, upd_same] at hS
    cases hS
  have hS0 : H S = none := by
    rw [upd_ne nSF, upd_ne nSF] at hS
    exact hS
  have s1 : Same H (upd (upd (upd H F (.dK [])) F (.dK kvs)) S (.dK [])) := by
    have hSu := hS
    rw [upd_upd] at hSu ⊢
    exact (same_new hF).trans (same_new hSu)
  have hF1 : upd (upd (upd H F (.dK [])) F (.dK kvs)) S (.dK []) F = some (.dK kvs) := by rw [upd_ne (Ne.symm nSF), upd_same]
  have hS1 : upd (upd (upd H F (.dK [])) F (.dK kvs)) S (.dK []) S = some (.dK []) := upd_same
  generalize upd (upd (upd H F (.dK [])) F (.dK kvs)) S (.dK []) = H1 at s1 hF1 hS1 ⊢
  refine ⟨_, rfl, hv H1 s1 _ fun z H4 s4 ev => ⟨Sum.inr e.name, rfl, s4 _ _ hS1, s4 _ _ hF1, ?_⟩⟩
  have hS4 := s4 _ _ hS1
  have hF4 := s4 _ _ hF1
  have k5 : Kp (fun b => Mu b ∨ b = S ∨ b = F) H4 (upd (upd H4 S (.dK [(Sum.inr e.name, z)])) F (.dK (putK kvs (Sum.inr e.name) z))) := (kp_upd (.inr (.inl rfl))).trans (kp_upd (.inr (.inr rfl)))
  have hF5 : upd (upd H4 S (.dK [(Sum.inr e.name, z)])) F (.dK (putK kvs (Sum.inr e.name) z)) F = some (.dK (putK kvs (Sum.inr e.name) z)) := upd_same
  have s5 : Same H (upd (upd H4 S (.dK [(Sum.inr e.name, z)])) F (.dK (putK kvs (Sum.inr e.name) z))) := fun b o eb => by
    rw [upd_ne (ne_of_none eb hF), upd_ne (ne_of_none eb hS0)]
    exact s4 _ _ (s1 _ _ eb)
  generalize upd (upd H4 S (.dK [(Sum.inr e.name, z)])) F (.dK (putK kvs (Sum.inr e.name) z)) = H5 at k5 hF5 s5 ⊢
  have ev5 : EntV c Mu H5 z e := by
    have g : EntV c (fun b => Mu b ∨ b = S ∨ b = F) H4 z e := ev.grow2 fun b m => m.imp id fun m => m.elim (fun m => by rw [m, hS4]; exact other_dK) fun m => by rw [m, hF4]; exact other_dK
    obtain ⟨a, x, y, s, e1, m, h, h1, h2, h3⟩ := g.keep k5
    exact ⟨a, x, y, s, e1, fun z => m (.inl z), h, h1.grow fun b z => .inl (.inl z), h2.grow fun b z => .inl (.inl z), h3.grow fun b z => .inl (.inl z)⟩
  have ctF : Cont c Mu H5 F (setE es e) := ⟨wl.new hF, _, hF5, (re.keep (.ofSame s5)).put ev5⟩
  refine ⟨_, rfl, _, rfl, Mu, F, setE es e, e.name, rfl, wl.same s5, ctF, ok_setE ok oe, ?_, has_setE.mpr (.inr rfl), ?_⟩
  · rw [len_setE]
    split <;> omega
  · unfold tryE at q
    cases hn : need (setE es e) e.name with
    | some r =>
      rw [hn] at q
      exact Raise.same q s5
    | none =>
      rw [hn] at q
      intro H6 s6
      refine ⟨_, rfl, ?_⟩
      show D.rt (.ref F) H6
      rw [hD]
      exact q F H6 (s5.trans s6) hF (ctF.keep (.ofSame s6))
theorem ok_behind (T : Txt w K mg c) (R : Exs P K mg c) : Def P w K mg base (L2.CX P w) "behind" ["content", "deed", "limit"] 7 (spBehind c) := by
  refine T.d_behind.def_ sc_behind (fun vs H Q E ⟨_, _, _, _, _, _, e, _⟩ => by rw [e]; rfl) (fun _ _ _ _ _ _ us hl => match us, hl with | [_, _, _], _ => rfl) fun f cdv A outer s H vs Q E hr h => ?_
  obtain ⟨Mu, d, es, v, dd, lim, rfl, wl, ct, ok, nd, hl, dv, dk, q⟩ := h
  have hu := hu_of hr
  refine ⟨_, (pss_cons (ps_asg (pe_tup (pa_cons (pe_ix ix_tup (pv 1) pe_int (fun _ _ => rfl)) (pa_cons (pe_ix ix_tup (pv 1) pe_int (fun _ _ => rfl)) pa_nil))) (pg_tup rfl (pgs_cons (pg_name (i := 3) sc_behind.nd rfl (Or.inl rfl)) (pgs_cons (pg_name (i := 4) sc_behind.nd rfl (Or.inr rfl)) pgs_nil))))
      (pss_cons (ps_if (pt_cmpR op_eqC (pv 3) pe_str (nomark _)) (pss_cons (ps_if (pt_not (pt_val (dcall (ok_is_name T) hr (by decide) pass0 (pa_cons (pv 4) pa_nil)))) (pss_one ps_never) pss_nil)
      (pss_cons (ps_if (pt_cmpR op_gt (pe_callB (own_len (ok_Context___len__ T) hr (by decide)) (by rfl) T.n_len PySem.boot_len (pa_cons (pe_ix ix_tup (pv 1) pe_int (fun _ _ => rfl)) pa_nil)) (gcst T.k_MOST_OWN) (nomark _)) (pss_one ps_never) pss_nil)
      (pss_cons (ps_if (PW.pt (pw_and (pt_cmp (pc_dnotin hu (pv 4) (pv 0))) (pw_and1 (pt_cmpR op_ge (pe_callB call_lenD (by rfl) T.n_len PySem.boot_len (pa_cons (pv 0) pa_nil)) (pv 2) (nomark _))))) (pss_one (ps_raiseX rfl R.full hr (takes_of rfl rfl rfl rfl) (pa_cons (pv 2) pa_nil))) pss_nil)
      (pss_cons (ps_set (i := 5) sc_behind.nd rfl (Or.inl rfl) (pe_merge (pv 0) (pv 4) (pe_slice sl_tup (pv 1) (po_some pe_int) po_none)))
      (pss_cons (ps_expr (dcall (ok_need_recalled T R) hr (by decide) (passes_call (takes_of rfl rfl rfl rfl) (fun _ _ _ _ h => h)) (pa_cons (pv 5) (pa_cons (pv 4) pa_nil))))
      (pss_one (ps_ret (pv 5)))))))) pss_nil)
      (pss_cons (ps_if (PW.pt (pw_or (pt_not (pt_val (isi .str T.n_isinstance (pa_cons (pv 4) (pa_cons (gty .str T.n_str bb_str) pa_nil))))) (pw_or1 (pt_cmp (pc_dnotin hu (pv 4) (pv 0)))))) (pss_one (ps_raiseX rfl R.unknown hr (takes_of rfl rfl rfl rfl) (pa_cons (pv 4) pa_nil))) pss_nil)
      (pss_cons (ps_if (pt_cmpR op_eqC (pv 3) pe_str (nomark _)) (pss_cons (ps_set (i := 5) sc_behind.nd rfl (Or.inl rfl) (pe_merge (pv 0) (pv 4) (pe_tup (StX.pa_star (pe_slice sl_tup (pe_dget hu (pv 0) (pv 4) (fun _ _ => rfl)) po_none (po_some pe_int)) (pa_cons (pe_ix ix_tup (pv 1) pe_int (fun _ _ => rfl)) pa_nil)))))
      (pss_cons (ps_expr (dcall (ok_need_recalled T R) hr (by decide) (passes_call (takes_of rfl rfl rfl rfl) (fun _ _ _ _ h => h)) (pa_cons (pv 5) (pa_cons (pv 4) pa_nil))))
      (pss_one (ps_ret (pv 5))))) pss_nil)
      (pss_cons (ps_set (i := 6) sc_behind.nd rfl (Or.inl rfl) (dcall (ok_users_in T) hr (by decide) pass0 (pa_cons (pv 0) (pa_cons (pv 4) pa_nil))))
      (pss_cons (ps_if (pt_cmpR (op_neD hr.units) (pv 6) (pe_lst pa_nil) (nomark _)) (pss_one (ps_raiseX rfl R.inuse hr (takes_of rfl rfl rfl rfl) (pa_cons (pe_ix ix_dat (pv 6) pe_int (fun _ _ => rfl)) pa_nil))) pss_nil)
      (pss_one (ps_ret (pe_lock (pe_dc (own := [("key", 7)]) (tk := tVar 7) (tv := tDGet (tVar 0) (tVar 7)) rfl sc_behind.nd (pi_keys (pv 0)) (blkOk_by (N := ["content", "deed", "limit", "word", "name", "late", "users", "key"]) (sc := (defScope s_behind)) (by decide +kernel)) (fun _ _ _ _ _ => (pg_name (i := 7) sc_behind.nd rfl (Or.inl rfl))) (fun _ _ _ _ _ => (pts_one (pt_cmpR op_neC (pv 7) (pv 4) (nomark _)))) (fun _ _ _ _ _ => (pv 7)) (fun _ _ _ _ _ => (pe_dget hu (pv 0) (pv 7) (fun _ _ => rfl))))))))))))), ?_⟩
  have nm := dk.nm
  cases dd with
  | fact x rs g cs =>
    obtain ⟨a, k, gv, sv, rfl, ma, ha, hk, hg, hs⟩ := dv
    refine ⟨_, rfl, a, _, _, _, rfl, rfl, SqT.of ha, rfl, _, rfl, a, _, _, _, rfl, rfl, SqT.of ha, rfl, (by show 2 ≤ sizeLine; decide), fun p np => ⟨_, _, rfl, SqT.of upd_same, rfl, _, _, rfl, _, _, rfl, rfl, ?_⟩⟩
    have s1 : Same H (upd H p (.tup [V.str "fact", V.str x])) := same_new np
    refine ⟨_, rfl, rfl, fun _ => ⟨_, rfl, iteT ?_⟩, fun z => absurd rfl z⟩
    refine ⟨_, rfl, x, rfl, nm, fun H2 s2 => ⟨_, rfl, iteF ?_⟩⟩
    have sA : Same H H2 := s1.trans s2
    have ck := hk.keep (Kp.ofSame (Mc := Mu) sA)
    have ck0 := ck
    obtain ⟨t, ⟨ak, da, rfl, mk, hak⟩, dt⟩ := ck
    have ct2 := ct.keep (Kp.ofSame (Mc := Mu) sA)
    obtain ⟨md, kvs, hd, re⟩ := ct2
    have rl : rs.length ≤ 8 := EntOk.rl dk
    refine ⟨_, rfl, a, _, _, _, rfl, rfl, SqT.of (sA _ _ ha), rfl, ak, da, _, rfl, hak, Mu, .ref ak, rs, rfl, ck0, ⟨⟨rs.length, Nat.lt_of_le_of_lt rl (by decide), rfl⟩, _, _, rfl, rfl, _, rfl, ?_⟩⟩
    rw [decide_eq_false (by omega)]
    refine iteF ?_
    refine ⟨_, rfl, _, rfl, d, _, rfl, dgetE (.inl hd) x, _, rfl, ?_⟩
    rw [re.has x]
    have q2 : EndC c Mu (if ¬ has es x ∧ lim ≤ es.length then .inl (.full lim) else tryE es ⟨x, rs, g, cs⟩) H2 Q E := EndC.same sA q
    have rest : ∀ {D : L2.Ends}, D.rt = Q → ¬ (¬ has es x ∧ lim ≤ es.length) → tSeq (tAsg (tMerge (tVar 0) (tVar 4) (tSl (rSlT K) (tVar 1) (tPart (tC (.int 2))) tNoPart)) (gName 5)) (tSeq (tDrop (tCall (spNeedR c) [] E (tCons (tVar 5) (tCons (tVar 4) tNil)))) (tRet (tVar 5))) D [some (.ref d), some (.ref a), some (.int lim), some (.str "fact"), some (.str x), none, none, none] H2 := fun hD n => by
      rw [if_neg n] at q2
      refine tail (e := ⟨x, rs, g, cs⟩) hD (wl.same sA) ⟨md, kvs, hd, re⟩ ok hl dk (fun H3 s3 Qk hQ => ?_) q2
      have sB := sA.trans s3
      refine ⟨_, rfl, _, rfl, a, _, rfl, SqT.of (sB _ _ ha), ?_⟩
      refine ⟨fun z => absurd z.1 (show ¬ HT.sIx 5 0 (some 2) = 0 by decide), fun p5 n5 => hQ _ _ (same_new n5) ⟨p5, .ref ak, gv, sv, rfl, ((wl.same sA).same s3).new n5, upd_same, ?_, ?_, ?_⟩⟩
      · exact hk.keep (.ofSame (sB.trans (same_new n5)))
      · exact hg.keep (.ofSame (sB.trans (same_new n5)))
      · exact hs.keep (.ofSame (sB.trans (same_new n5)))
    by_cases hx : has es x
    · rw [decide_eq_true hx]
      exact iteF (iteF (rest rfl fun z => z.1 hx))
    · rw [decide_eq_false hx]
      refine iteT ⟨_, rfl, d, kvs, rfl, hd, _, rfl, _, _, rfl, rfl, _, rfl, ?_⟩
      rw [re.len]
      by_cases full : lim ≤ es.length
      · rw [decide_eq_true (by omega)]
        rw [if_pos ⟨hx, full⟩] at q2
        exact iteT ⟨_, rfl, ⟨_, rfl⟩, fun d1 n1 => q2 d1 _ (same_new n1) upd_same⟩
      · rw [decide_eq_false (by omega)]
        exact iteF (rest rfl fun z => full z.2)
  | script x cs =>
    obtain ⟨a, sv, rfl, ma, ha, hs⟩ := dv
    refine ⟨_, rfl, a, _, _, _, rfl, rfl, SqT.of ha, rfl, _, rfl, a, _, _, _, rfl, rfl, SqT.of ha, rfl, (by show 2 ≤ sizeLine; decide), fun p np => ⟨_, _, rfl, SqT.of upd_same, rfl, _, _, rfl, _, _, rfl, rfl, ?_⟩⟩
    have sA : Same H (upd H p (.tup [V.str "script", V.str x])) := same_new np
    generalize upd H p (.tup [V.str "script", V.str x]) = H2 at sA ⊢
    refine ⟨_, rfl, rfl, fun z => absurd z (by decide +kernel), fun _ => ⟨_, rfl, iteF ?_⟩⟩
    have ct2 := ct.keep (Kp.ofSame (Mc := Mu) sA)
    obtain ⟨md, kvs, hd, re⟩ := ct2
    have q2 : EndC c Mu (match ent? es x with
      | none => .inl (.unknown x)
      | some e => tryE es ⟨x, e.rows, e.goal, cs⟩) H2 Q E := EndC.same sA q
    refine ⟨_, rfl, rfl, .str, .base (.str x), _, rfl, iteF ⟨_, rfl, _, rfl, d, _, rfl, dgetE (.inl hd) x, _, rfl, ?_⟩⟩
    rw [re.has x]
    by_cases hx : has es x
    · obtain ⟨e, he, hem, hen⟩ := ent_some hx
      rw [he] at q2
      rw [decide_eq_true hx]
      refine iteF ⟨_, rfl, rfl, fun _ => ⟨_, rfl, iteT ?_⟩, fun z => absurd rfl z⟩
      have okE := ok e hem
      refine tail (e := ⟨x, e.rows, e.goal, cs⟩) rfl (wl.same sA) ⟨md, kvs, hd, re⟩ ok hl ⟨dk.1, okE.ro, okE.rl, okE.go, okE.gd, dk.2.1, dk.2.2⟩ (fun H3 s3 Qk hQ => ?_) q2
      have sB := sA.trans s3
      obtain ⟨v, hv, ev⟩ := re.get he
      obtain ⟨av, kx, gx, sx, rfl, mv, hv2, hk2, hg2, hs2⟩ := ev
      refine ⟨_, rfl, _, rfl, d, _, rfl, dgetV (.inl (s3 _ _ hd)) hv, _, rfl, av, _, rfl, SqT.of (s3 _ _ hv2), fun z => absurd z.2 (show ¬ HT.sIx 3 3 (some 2) = 3 by decide), fun p5 n5 => ?_⟩
      refine ⟨p5, _, rfl, .inl (SqT.of upd_same), ?_⟩
      refine ⟨_, rfl, a, _, _, _, rfl, rfl, SqT.of ((sB.trans (same_new n5)) _ _ ha), rfl, (by show 3 ≤ sizeLine; decide), fun p6 n6 => ?_⟩
      have s6 := (same_new (o := .tup (cutV [kx, gx, sx] none (some 2))) n5).trans (same_new (o := .tup [kx, gx, sv]) n6)
      refine hQ _ _ s6 ⟨p6, kx, gx, sv, rfl, ?_, upd_same, hk2.keep (.ofSame (s3.trans s6)), hg2.keep (.ofSame (s3.trans s6)), hs.keep (.ofSame (sB.trans s6))⟩
      exact ((wl.same sB).same (same_new n5)).new n6
    · rw [ent_none hx] at q2
      rw [decide_eq_false hx]
      exact iteT ⟨_, rfl, ⟨_, rfl⟩, fun d1 n1 => q2 d1 _ (same_new n1) upd_same⟩
  | drop x =>
    obtain ⟨a, rfl, ma, ha⟩ := dv
    refine ⟨_, rfl, a, _, _, _, rfl, rfl, SqT.of ha, rfl, _, rfl, a, _, _, _, rfl, rfl, SqT.of ha, rfl, (by show 2 ≤ sizeLine; decide), fun p np => ⟨_, _, rfl, SqT.of upd_same, rfl, _, _, rfl, _, _, rfl, rfl, ?_⟩⟩
    have sA : Same H (upd H p (.tup [V.str "drop", V.str x])) := same_new np
    generalize upd H p (.tup [V.str "drop", V.str x]) = H2 at sA ⊢
    refine ⟨_, rfl, rfl, fun z => absurd z (by decide +kernel), fun _ => ⟨_, rfl, iteF ?_⟩⟩
    have ct2 := ct.keep (Kp.ofSame (Mc := Mu) sA)
    have ct3 := ct2
    obtain ⟨md, kvs, hd, re⟩ := ct2
    have q2 : EndC c Mu (if has es x then (match users es x with
      | u :: _ => .inl (.inuse u)
      | [] => .inr (dropE es x)) else .inl (.unknown x)) H2 Q E := EndC.same sA q
    refine ⟨_, rfl, rfl, .str, .base (.str x), _, rfl, iteF ⟨_, rfl, _, rfl, d, _, rfl, dgetE (.inl hd) x, _, rfl, ?_⟩⟩
    rw [re.has x]
    by_cases hx : has es x
    · rw [if_pos hx] at q2
      rw [decide_eq_true hx]
      refine iteF ⟨_, rfl, rfl, fun z => absurd z (by decide +kernel), fun _ => ⟨_, rfl, iteF ?_⟩⟩
      have wl2 := wl.same sA
      refine ⟨_, rfl, _, rfl, Mu, d, es, x, rfl, wl2, ct3, ok, nd, by omega, fun p7 H7 s7 d7 n7 => ?_⟩
      have d70 := d7
      obtain ⟨_, xs7, e7, m7, h7, r7⟩ := d7.asLst
      cases e7
      have e8 : xs7 = (users es x).map V.str := dats_strs_eq r7
      subst e8
      have nmU : ∀ y ∈ users es x, NameOk y := fun y hy => by
        have hy2 := (srt_perm _).mem_iff.mp hy
        obtain ⟨e, he, rfl⟩ := List.mem_map.mp hy2
        exact (ok e (List.mem_filter.mp he).1).nm
      refine ⟨_, rfl, Nat.zero_le _, fun p np => ⟨.list ((users es x).map PyData.str), .list [], ?_, .lst (SqL.of upd_same) .nil, (strs_lay (n := 0) nmU).shaped, by decide +kernel, _, rfl, ?_⟩⟩
      · exact .lst (SqL.of (same_new np _ _ h7)) (Dats.dp (Mu := fun _ => False) (dats_strs _))
      have s8 : Same H2 (upd H7 p (.lst [])) := s7.trans (same_new np)
      have d8 : Dat Mu (upd H7 p (.lst [])) (.ref p7) (.list ((users es x).map PyData.str)) := d70.same (same_new np)
      generalize upd H7 p (.lst []) = H8 at s8 d8 ⊢
      rw [eqv_nil]
      cases hU : users es x with
      | cons u r =>
        rw [hU] at q2 d8
        refine iteT ⟨_, rfl, Mu, _, _, 0, d8, rfl, rfl, fun z dz => ?_⟩
        obtain rfl := dz.asStr
        exact ⟨⟨_, rfl⟩, fun d1 n1 => q2 d1 _ (s8.trans (same_new n1)) upd_same⟩
      | nil =>
        rw [hU] at q2
        refine iteF ⟨d, _, s8 _ _ hd, trivial, fun od => ?_⟩
        have g2 : ∀ b, wi Mu d b → Mu b ∨ Other (H8 b) := fun b m => m.imp id fun e => by rw [e, s8 _ _ hd]; exact other_dK
        have kL : Kp (fun b => b = d) H8 (upd H8 d (.frz od (.dK kvs))) := kp_at
        have reL : KvE c (wi Mu d) (upd H8 d (.frz od (.dK kvs))) kvs es := ((re.keep (.ofSame s8)).grow2 g2).keep (kL.wide fun b m => .inr m)
        have wlL : Wl (wi Mu d) (upd H8 d (.frz od (.dK kvs))) := ((wl2.same s8).kp kL).wi (by rw [upd_same]; exact fun z => by cases z)
        have hL : upd H8 d (.frz od (.dK kvs)) d = some (.frz od (.dK kvs)) := upd_same
        have sL : Kp (fun b => b = d) H2 (upd H8 d (.frz od (.dK kvs))) := (Kp.ofSame s8).trans kL
        generalize upd H8 d (.frz od (.dK kvs)) = HL at kL reL wlL hL sL ⊢
        refine ⟨_, rfl, d, od, rfl, .inl ⟨kvs, hL, fun D hD => ?_⟩⟩
        have nDd : d ≠ D := ne_of_none hL hD
        refine dc_it walk_keys (fun i Hc => ∃ kvs2, Kp (fun b => b = D) (upd HL D (.dK [])) Hc ∧ Hc D = some (.dK kvs2) ∧ KvE c (wi (wi Mu d) D) Hc kvs2 (dropE (es.take i) x)) ⟨[], .refl _, upd_same, .nil⟩ (fun i Hc ⟨_, k2, _, _⟩ => k2.at_ _ _ nDd (by rw [upd_ne nDd]; exact hL)) ?_ ?_
        · rintro i x0 Hc Hc' hi ⟨kvs2, k2, hD2, rF⟩ ⟨rfl, k, v, hkv, rfl⟩
          obtain ⟨e, he, rfl, _⟩ := reL.at_ hkv
          obtain ⟨v, hv, ev⟩ := reL.get (ent_at nd he)
          have et : es.take (i + 1) = es.take i ++ [e] := take_succ he
          have kD : Kp (fun b => b = D) HL (upd HL D (.dK [])) := kp_at
          have kk : Kp (wi (wi Mu d) D) HL Hc' := (kD.trans k2).wide fun b m => .inr m
          have evD : EntV c (wi (wi Mu d) D) Hc' v e := (ev.grow2 fun b m => m.imp id fun m => by rw [m, hD]; exact other_none).keep kk
          refine ⟨rfl, _, rfl, _, rfl, rfl, fun z => ?_, fun z => ?_⟩
          · refine ⟨_, rfl, iteF ⟨kvs2, k2, hD2, ?_⟩⟩
            have e1 : e.name = x := by
              injection z
            have e2 : dropE (es.take (i + 1)) x = dropE (es.take i) x := by
              unfold dropE
              rw [et, List.filter_append, List.filter_cons_of_neg (by simpa using e1)]
              simp
            rw [e2]
            exact rF
          · have e1 : e.name ≠ x := fun q => z (by rw [← q]; rfl)
            have e2 : dropE (es.take (i + 1)) x = dropE (es.take i) x ++ [e] := by
              unfold dropE
              rw [et, List.filter_append, List.filter_cons_of_pos (by simpa using e1)]
              simp
            have nin : ¬ has (dropE (es.take i) x) e.name := fun q => by
              obtain ⟨f, hf, hn⟩ := List.mem_map.mp q
              have hf2 : f ∈ es.take i := (List.mem_filter.mp hf).1
              refine nodup_take (l := names es) (i := i) (y := e.name) nd (by rw [List.getElem?_map, he]; rfl) ?_
              rw [← List.map_take]
              exact List.mem_map.mpr ⟨f, hf2, hn⟩
            have hd0 : Hc' d = some (.frz od (.dK kvs)) := k2.at_ _ _ nDd (by rw [upd_ne nDd]; exact hL)
            refine ⟨_, rfl, iteT ⟨_, rfl, _, rfl, _, rfl, d, _, rfl, dgetV (.inr ⟨od, hd0⟩) hv, kvs2, Sum.inr e.name, rfl, hD2, ?_, ?_⟩⟩
            · rw [rF.len]
              refine Nat.lt_of_le_of_lt (Nat.le_trans (List.length_filter_le _ _) ?_) (show 7 < sizeLine by decide)
              rw [List.length_take]
              omega
            · have nv : valV kvs2 (Sum.inr e.name) = none := by
                have := rF.has e.name
                rw [decide_eq_false nin] at this
                exact Option.isNone_iff_eq_none.mp (by rw [← Option.not_isSome, this]; rfl)
              rw [putK_new _ nv, e2]
              exact ⟨_, k2.trans (kp_upd rfl), upd_same, (rF.keep (kp_upd (.inr rfl))).snoc ⟨rfl, evD.keep (kp_upd (.inr rfl))⟩⟩
        · rintro Hc ⟨kvs2, k2, hD2, rF⟩
          rw [re.len, List.take_length] at rF
          have hd9 : Hc d = some (.frz od (.dK kvs)) := k2.at_ _ _ nDd (by rw [upd_ne nDd]; exact hL)
          have nD2 : H2 D = none := sL.fresh hD
          refine ⟨hd9, q2 D _ (fun b o eb => ?_) nD2 ⟨wl2.new nD2, kvs2, by rw [upd_ne (Ne.symm nDd)]; exact hD2, (rF.keep (kp_upd (.inl (.inr rfl)))).grow2 fun b m => .inl (.inl (.inl m))⟩⟩
          by_cases z : b = d
          · rw [z, upd_same, ← hd, ← z]
            exact eb
          · have nb : b ≠ D := ne_of_none eb nD2
            rw [upd_ne z]
            exact k2.at_ b o nb (by rw [upd_ne nb]; exact sL.at_ b o z eb)
    · rw [if_neg hx] at q2
      rw [decide_eq_false hx]
      exact iteT ⟨_, rfl, ⟨_, rfl⟩, fun d1 n1 => q2 d1 _ (same_new n1) upd_same⟩
end
end AG
namespace AG
open PySem PySem.Spec PyProof.Rows L2
open L2H (RoomH PinOk)
/-! ### defs that run while an exception is at hand, and raise nothing -/
structure QFn (P : Program) (w : World) (K : PySem.W.Frag) (mg : Str → Option Value) (base : Heap) (k : Nat) (f : Addr) (fd : FuncData) (ps : List Str) (sp : Sp) : Prop where
  len : ∀ vs H Q E, sp vs H Q E → vs.length = ps.length
  go : ∀ (A : Around) (outer : List Env) (s : Shared) (H : Hp) (us : List Value) (vs : List V) (Q : VK) (p : Addr × Obj), RoomH k A → PinOk outer H s p → Env0 P w K mg base A outer s H → BindsTo s fd ⟨us, []⟩ (ps.zip us) → Vals vs us → sp vs H Q E0 →
    codeAny (model P w) A (.call (.ref f) ⟨us, []⟩) (CR CX0 outer P w H s Q E0) s
/-- its frame -/
abbrev cxQ (P : Program) (w : World) (K : PySem.W.Frag) (mg : Str → Option Value) (base : Heap) (N : List Str) (qual : Str) (scope : Scope) (f : Addr) (cd : Value) (A : Around) (outer : List Env) (s : Shared) (H : Hp) (p : Addr × Obj) : Cx := L2H.cxH CX0 P w K mg base N qual scope f cd A outer s H E0 p
section
variable {P : Program} {w : World} {K : PySem.W.Frag} {mg : Str → Option Value} {base : Heap} {k : Nat} {f : Addr} {name qual : Str} {params : Arguments} {body : List Stmt} {scope : Scope} {kws : List (Str × V)} {fd : FuncData} {N ps : List Str} {sp : Sp}
theorem q_of (F : FunD K name qual params body scope [] [] f fd) (S : FnScope N ps scope) (len : ∀ vs H Q E, sp vs H Q E → vs.length = ps.length)
    (run : ∀ (cdv : Value) (A : Around) (outer : List Env) (s : Shared) (H : Hp) (vs : List V) (Q : VK) (p : Addr × Obj), RoomH k (A.deeper (envOfC qual scope s.heap.objs.size f cdv)) → PinOk outer H s p → sp vs H Q E0 →
      ∃ t, PSs (cxQ P w K mg base N qual scope f cdv A outer s H p) body t ∧ t { nx := fun _ H' => Q .non H', rt := Q } (L2.start N vs) H) : QFn P w K mg base (k + 1) f fd ps sp := by
  obtain ⟨oc, od, dV, kV, doc, pm, an, cdv, ct, osl, rfl, lk, hcd, _, _⟩ := F.ex
  refine ⟨len, fun A outer s H us vs Q p room pin e0 hb r hsp => ?_⟩
  have sameLen := len _ _ _ _ hsp
  have kin : K.In s.heap := e0.mod.kin.keeps fun b o e => (e0.bs b o e).1
  refine codeAny_call_function room.depth (kin _ _ lk) rfl S.co S.gen rfl (PySem.W.codeRec_of kin hcd) (hb _ _ _ _ ?_)
  refine wpAny_newFunctionEnv_cells S.kind (fun ⟨n, v⟩ hy => ?_) fun env he s1 x => ?_
  · rcases S.par n (List.of_mem_zip hy).1 with q | q
    · exact .inl q
    · exact .inr ⟨q, PySem.W.cellsFrom_some _ _ _ (.inl q)⟩
  subst he
  refine ⟨(e0.mod.nolimit.keeps fun b o e => (e0.bs b o e).1).keeps x.toInCall.keep, codeAny_func ?_⟩
  obtain ⟨t, ht, hq⟩ := run cdv A outer s H vs Q p (room.deeper _) pin hsp
  have I := L2H.inv_startH (CX := CX0) (E := E0) (f := f) (cd := cdv) S pin e0 sameLen r x
  refine wpAny_mono (ht.run [] s1 (L2.start N vs) H _ I hq) (fun fl s2 hs => ?_) fun e s2 hs => hs
  cases fl with
  | ret u =>
    obtain ⟨v, σ2, H2, J, rv, q⟩ := hs
    exact ⟨v, H2, J.os, J.bare, J.base, J.hok, rv, q⟩
  | next =>
    obtain ⟨σ2, H2, J, q⟩ := hs
    exact ⟨V.non, H2, J.os, J.bare, J.base, J.hok, rfl, q⟩
  | brk =>
    obtain ⟨_, _, _, q⟩ := hs
    exact q.elim
  | cont =>
    obtain ⟨_, _, _, q⟩ := hs
    exact q.elim
end
section
variable {X : Cx} {k : Nat} {f : Addr} {fd : FuncData} {ps : List Str} {sp : Sp}
theorem run_q {pins : List (Addr × Obj)} {σ : L2.St} {H : Hp} {s : Shared} {Q : VK} {us : List Value} {vs : List V} (F : QFn X.prog X.w X.K X.mg X.base k f fd ps sp) (room : RoomH k X.A) {p : Addr × Obj} (hp : p ∈ X.pn) (hb : Binds X.K fd ps [])
    (I : Inv X pins σ H s) (r : Vals vs us) (h : sp vs H Q E0) {E : Value → Shared → Prop} : codeAny (model X.prog X.w) X.A (.call (.ref f) ⟨us, []⟩) (fun r s' => ∃ u, r = .ok (.ret u) ∧ EP X pins σ Q u s') s := by
  have hl : us.length = ps.length := by rw [← r.length]; exact F.len _ _ _ _ h
  have b := hb s us I.kIn (by rw [List.append_nil]; exact hl)
  rw [List.append_nil] at b
  have P1 := I.pin p (List.mem_append_left _ hp)
  refine codeAny_mono (F.go X.A X.stack s H us vs Q p room ⟨P1.1, P1.2.1, fun hm => (List.mem_cons.mp (I.stkSub p.1 hm)).elim P1.2.2.1 P1.2.2.2.1, P1.2.2.2.2⟩ I.env0 b r h) fun r s' hq => ?_
  cases r with
  | error e => exact hq.elim
  | ok fl =>
    cases fl with
    | ret u => exact ⟨u, rfl, I.after hq⟩
    | next => exact hq.elim
    | brk => exact hq.elim
    | cont => exact hq.elim
end
/-! ### with C(..): body, where the body may raise -/
section
variable {X : Cx} {C : Addr} {e : Expr} {body : List Stmt} {pos : Pos} {te : TE} {tb : WX → TS} {psN psX : List Str} {spN spX : Sp} {j k : Nat} {Wout : WX}
/-- what is wished of the body's error: the exit runs, then Wout -/
def wExit (a : Addr) (spX : Sp) (Wout : WX) : WX := fun cls d σ H => ∃ B, cls = .ref B ∧ ∀ (x : Addr) (t : V), H x = none → spX [.ref a, .ref B, .ref x, t] H (fun v H' => v = .non ∧ Wout cls d σ H') E0
def tWith (C : Addr) (te : TE) (spN : Sp) (tb : WX → TS) (spX : Sp) (Wout : WX) : TS := fun D σ H => te σ H fun x H1 => ∃ a dx fs, x = .ref a ∧ H1 a = some (.ins C dx fs) ∧
  spN [x] H1 (fun _ H2 => tb (wExit a spX Wout) { nx := fun σ' H' => spX [x, .non, .non, .non] H' (fun _ H'' => D.nx σ' H'') E0, rt := fun _ _ => False } σ H2) E0
/-- where an exception was noted and set at rest: the state, its objects pinned -/
structure Rest (X : Cx) (pins : List (Addr × Obj)) (W : WX) (a T : Addr) (oe oT : Obj) (cls : Value) (d : Option Addr) (σ : L2.St) (H : Hp) (B : Heap) (sI : Shared) (s : Shared) : Prop where
  inv : Inv (X.suite a ((a, oe) :: (T, oT) :: (X.pn ++ pins))) [] σ H s
  first : Inv X pins σ H sI
  nb : ∀ b o, sI.heap.get? b = some o → b ∉ frs X.stack → B.get? b = some o
  hB : B.get? a = none
  hT : B.get? T = none
  ne : T ≠ a
  z : Zc cls d oe
  ed : ∃ vs : Array Value, oe.data = .fields vs ∧ vs[1]? = some (.ref T)
  td : ∃ ts : Array Value, oT.data = .fields ts ∧ ts[3]? = some .none
  w : W cls d σ H
theorem at_rest {E' : Value → Shared → Prop} {pins : List (Addr × Obj)} {Q : Flow → Shared → Prop} {xe : Value → Shared → Prop} {W : WX} {u : Value} {s' : Shared} {rest : Value → Sem Flow} (hs : X.stack = X.env :: X.outer) (hf : X.env.frame = some X.env.locals) (ok : X.Ok)
    (xx : XE (X.tr (X.pn ++ pins) xe) W u s') (go : ∀ a T oe oT cls d σ H B sI h, u = .ref a → Rest X pins W a T oe oT cls d σ H B sI { s' with heap := h } → wpAny (model X.prog X.w) X.A (rest u) Q E' { s' with heap := h }) :
    wpAny (model X.prog X.w) X.A (noteFrame u X.env) (fun _ s2 => wpAny (model X.prog X.w) X.A (setFlight u none) (fun _ s3 => wpAny (model X.prog X.w) X.A (rest u) Q E' s3) E' s2) E' s' := by
  have fr : X.A.frames = some (X.env :: X.outer) := by rw [ok.frames, hs]
  obtain ⟨a, B, sI, pins2, σ, H, cls, d, rfl, J2, nb, up, sky, na, os, ag, hw⟩ := xx
  have J : Inv X pins σ H sI := J2.ofTry ok
  have sky2 : Sky B (X.env :: X.outer) a (Zc cls d) X.env.locals s'.heap := by
    rw [← hs]
    exact sky
  refine Sky.land Zc.steady fr hf sky2 fun h fl up3 => ?_
  have J3 : Inv X pins σ H { s' with heap := h } := J.landed nb fl.1 (up.trans up3) os ag
  obtain ⟨_, noB, ff, oe, vs, T, oT, ts, he, hz, hd, h1, noT, ne, gT, dT, t3⟩ := id fl
  have nT : H T = none := (J.inGround nb).gone noT
  have off : ∀ (b : Addr) (o : Obj) (fv : Array Value), h.get? b = some o → o.data = .fields fv → b ≠ X.env.locals ∧ b ∉ X.fs := fun b o fv e dd => by
    have out : b ∉ frs (X.env :: X.outer) := fun hm => by
      obtain ⟨_, o2, e2, hnf⟩ := ff.mem hm
      cases (e.symm.trans e2)
      exact hnf _ dd
    refine ⟨fun z => out (List.mem_filterMap.mpr ⟨X.env, List.mem_cons_self, by rw [hf, z]⟩), fun hm => ?_⟩
    obtain ⟨y, hy, q⟩ := List.mem_filterMap.mp hm
    exact out (List.mem_filterMap.mpr ⟨y, List.mem_cons_of_mem _ hy, q⟩)
  have oa := off a oe vs he hd
  have ot := off T oT ts gT dT
  refine go a T oe oT cls d σ H B sI h rfl ⟨⟨J3.ok.suite _ _, J3.os, J3.bare, J3.base, J3.loc, J3.cell, J3.free, J3.freeC, fun p hp => ?_, J3.hok, J3.len⟩, J, nb, noB, noT, ne, hz, ⟨vs, hd, h1⟩, ⟨ts, dT, t3⟩, hw⟩
  rw [List.append_nil] at hp
  rcases List.mem_cons.mp hp with z | hp
  · subst z
    exact ⟨he, na, oa.1, oa.2, fun v z => by
      have z2 : oe.data = .cell v := z
      rw [hd] at z2
      cases z2⟩
  · rcases List.mem_cons.mp hp with z | hp
    · subst z
      exact ⟨gT, nT, ot.1, ot.2, fun v z => by
        have z2 : oT.data = .cell v := z
        rw [dT] at z2
        cases z2⟩
    · exact J3.pin p hp
/-- behind what was run, on it goes -/
theorem on_it_goes {pins : List (Addr × Obj)} {Q : Flow → Shared → Prop} {W : WX} {what : String} {a T : Addr} {oe oT : Obj} {cls : Value} {d : Option Addr} {σ σ6 : L2.St} {H H6 : Hp} {B : Heap} {sI s3 s6 : Shared} (hs : X.stack = X.env :: X.outer) (hf : X.env.frame = some X.env.locals) (hex : X.ex = []) (ok : X.Ok) (tk : Takes X Wout)
    (R : Rest X pins W a T oe oT cls d σ H B sI s3) (S6 : Inv (X.suite a ((a, oe) :: (T, oT) :: (X.pn ++ pins))) [] σ6 H6 s6) (hw : Wout cls d σ6 H6) : wpAny (model X.prog X.w) X.A (PySem.passOn what (.ref a) X.env) Q X.xe s6 := by
  obtain ⟨vs, hd, h1⟩ := R.ed
  obtain ⟨ts, dT, t3⟩ := R.td
  have J6 : Inv X pins σ6 H6 s6 := ⟨ok, S6.os, S6.bare, S6.base, S6.loc, S6.cell, S6.free, S6.freeC, fun p hp => S6.pin p (List.mem_append_left _ (List.mem_cons_of_mem _ (List.mem_cons_of_mem _ hp))), S6.hok, S6.len⟩
  obtain ⟨ga, na6, la, fa, _⟩ := S6.pin (a, oe) (List.mem_append_left _ List.mem_cons_self)
  obtain ⟨gT, nT6, lT, fT, _⟩ := S6.pin (T, oT) (List.mem_append_left _ (List.mem_cons_of_mem _ List.mem_cons_self))
  have inStack : ∀ b, b ∈ frs X.stack → b = X.env.locals ∨ b ∈ X.fs := fun b hb => List.mem_cons.mp (R.first.stkSub b hb)
  have far : ∀ b o, sI.heap.get? b = some o → b ≠ a ∧ b ≠ T := fun b o e => by
    by_cases hb : b ∈ frs X.stack
    · rcases inStack b hb with z | z
      · exact ⟨fun y => la (y ▸ z), fun y => lT (y ▸ z)⟩
      · exact ⟨fun y => fa (y ▸ z), fun y => fT (y ▸ z)⟩
    · have q := R.nb b o e hb
      refine ⟨fun z => ?_, fun z => ?_⟩
      · rw [z, R.hB] at q
        cases q
      · rw [z, R.hT] at q
        cases q
  have far0 : ∀ b o, X.s_0.heap.get? b = some o → b ≠ a ∧ b ≠ T := fun b o e => by
    obtain ⟨o2, q⟩ := R.first.base.there b o e (by rw [hex]; simp)
    exact far b o2 q
  obtain ⟨G, g1, g2⟩ := restrict s6.heap fun b => !(decide (b = a) || decide (b = T))
  have gIn : ∀ b o, G.get? b = some o → s6.heap.get? b = some o ∧ b ≠ a ∧ b ≠ T := fun b o e => by
    by_cases z : b = a ∨ b = T
    · rw [g2 b (by rcases z with z | z <;> simp [z])] at e
      cases e
    · have z2 := not_or.mp z
      rw [g1 b (by simp [z2.1, z2.2])] at e
      exact ⟨e, z2⟩
  have I6 : Inv X pins σ6 H6 { s6 with heap := G } := J6.less (fun b o e => (gIn b o e).1) (fun b o h1 h2 e => (g1 b (by simp [h1, h2])).trans e) ⟨oe, vs, ga, hd⟩ ⟨oT, ts, gT, dT⟩ na6 nT6 far0 fun p hp => far p.1 p.2 (R.first.pin p hp).1
  have low : ∀ b o, (PySem.W.hideAll G (frs X.stack)).get? b = some o → s6.heap.get? b = some o ∧ b ≠ a ∧ b ≠ T := fun b o e => gIn b o (PySem.W.of_hideAll _ e)
  have none_ : ∀ b, (b = a ∨ b = T) → (PySem.W.hideAll G (frs X.stack)).get? b = none := fun b hb => by
    cases q : (PySem.W.hideAll G (frs X.stack)).get? b with
    | none => rfl
    | some o => exact absurd hb (not_or.mpr (low b o q).2)
  have fly : HandSPX.FlyingZ (PySem.W.hideAll G (frs X.stack)) (X.env :: X.outer) a (Zc cls d) s6.heap := by
    refine ⟨fun b o e => (low b o e).1, none_ a (.inl rfl), ?_, oe, vs, T, oT, ts, ga, R.z, hd, h1, none_ T (.inr rfl), R.ne, gT, dT, t3⟩
    have ff := funFrames_none (B := PySem.W.hideAll G (frs X.stack)) J6.stack fun b hb => PySem.W.hideAll_none _ hb
    rw [← hs]
    exact ff
  have up : wpAny (model X.prog X.w) X.A (setFlight (.ref a) X.env.frame) (fun _ s7 => wpAny (model X.prog X.w) X.A (throw (.ref a) : Sem Flow) Q X.xe s7) X.xe s6 := by
    rw [hf]
    refine HandSPX.setFlight_upZ fly fun h7 hh7 up7 => wpAny_throw (tk _ _ ?_)
    exact ⟨a, PySem.W.hideAll G (frs X.stack), { s6 with heap := G }, pins, σ6, H6, cls, d, rfl, I6, fun b o e hb => PySem.W.hideAll_get _ e hb, (Heap.UpToSlots.of_keeps fun b o e => (gIn b o e).1).trans up7, .inr (.inr (by rw [← hs] at hh7; exact hh7)), na6, rfl, J6.bare, hw⟩
  unfold PySem.passOn
  refine wpAny_bind (wpAny_field ga hd h1 ?_)
  rw [if_neg (show ¬ ((Value.ref T == Value.none) = true) from by simp)]
  first
    | exact wpAny_bind (wpAny_pure (wpAny_bind up))
    | exact wpAny_bind up
theorem with_body {pins : List (Addr × Obj)} {W : WX} {rest : Value → Sem Flow} {N : Flow → Shared → Prop} {σ : L2.St} {H : Hp} {s : Shared} {D D2 : L2.Ends} (hs : X.stack = X.env :: X.outer) (hf : X.env.frame = some X.env.locals) (I : Inv X pins σ H s) (q : tb W D2 σ H)
    (hb : ∀ (W : WX) (pn : List (Addr × Obj)) (xe : Value → Shared → Prop), Takes (X.tr pn xe) W → PassesOwn (model X.prog X.w) X.A X.env xe → PSs (X.tr pn xe) body (tb W)) (norm : ∀ f s2, SP X pins D2 f s2 → N f s2)
    (land : ∀ a T oe oT cls d σ H B sI s2, Rest X pins W a T oe oT cls d σ H B sI s2 → wpAny (model X.prog X.w) X.A (rest (.ref a)) (SP X pins D) X.xe s2) :
    wpAny (model X.prog X.w) X.A (execs body X.env) N (fun x s2 => wpAny (model X.prog X.w) X.A (noteFrame x X.env >>= fun _ => setFlight x none >>= fun _ => rest x) (SP X pins D) X.xe s2) s := by
  refine wpAny_mono ((hb W (X.pn ++ pins) (fun x s₁ => wpAny (model X.prog X.w) X.A (noteFrame x X.env) (fun _ s₂ => wpAny (model X.prog X.w) X.A (setFlight x none) (fun _ s₃ => wpAny (model X.prog X.w) X.A (rest x) (SP X pins D) X.xe s₃) X.xe s₂) X.xe s₁)
    (fun u s2 xx => at_rest hs hf I.ok xx fun a T oe oT cls d σ H B sI h eu R => eu ▸ land a T oe oT cls d σ H B sI _ R) PassesOwn.looking).run [] s σ H D2 (I.toTry _) q) (fun f s2 hsp => norm f s2 ?_) fun x s2 hx => wpAny_bind (wpAny_mono hx (fun _ _ z => wpAny_bind z) fun _ _ z => z)
  have ok := I.ok
  cases f with
  | next => exact let ⟨σ2, H2, J, q⟩ := hsp; ⟨σ2, H2, J.ofTry ok, q⟩
  | brk => exact let ⟨σ2, H2, J, q⟩ := hsp; ⟨σ2, H2, J.ofTry ok, q⟩
  | cont => exact let ⟨σ2, H2, J, q⟩ := hsp; ⟨σ2, H2, J.ofTry ok, q⟩
  | ret u => exact let ⟨v, σ2, H2, J, r, q⟩ := hsp; ⟨v, σ2, H2, J.ofTry ok, r, q⟩
theorem ps_with (hs : X.stack = X.env :: X.outer) (hf : X.env.frame = some X.env.locals) (hex : X.ex = []) (tk : Takes X Wout) (hr : Room j X.A) (hk : k ≤ j)
    (GN : MDef X.prog X.w X.K X.mg X.base CX0 C "__enter__" psN k spN) (GX : MDef X.prog X.w X.K X.mg X.base CX0 C "__exit__" psX k spX) (GQ : ∀ f, Meth X.K C "__exit__" f → ∃ fd, QFn X.prog X.w X.K X.mg X.base k f fd psX spX ∧ Binds X.K fd psX []) (he : PE X e te)
    (hb : ∀ (W : WX) (pn : List (Addr × Obj)) (xe : Value → Shared → Prop), Takes (X.tr pn xe) W → PassesOwn (model X.prog X.w) X.A X.env xe → PSs (X.tr pn xe) body (tb W)) : PS X (.With [⟨e, none⟩] body pos) (tWith C te spN tb spX Wout) := by
  refine ⟨fun pins s σ H D I h => ?_⟩
  obtain ⟨fN, dN, MN, FN, bN⟩ := GN.ex
  obtain ⟨fX, dX, MX, FX, bX⟩ := GX.ex
  obtain ⟨dQ, FQ, bQ⟩ := GQ fX MX
  rw [arm_exec_With]
  refine wpAny_bind (wpAny_standAt ?_)
  rw [arm_withItems_cons, arm_withItems_nil]
  unfold withItem
  refine wpAny_bind (thn (he.run pins s σ H _ I h) fun u s1 ⟨x, H1, I1, rx, a, dx, fs, ex, ea, q1⟩ => ?_)
  subst ex
  obtain rfl : u = Value.ref a := rx
  refine wpAny_bind (wpAny_standAt ?_)
  obtain ⟨cd, hc, aN⟩ := PySem.W.kw_along MN.at_
  obtain ⟨cd2, hc2, aX⟩ := PySem.W.kw_along MX.at_
  cases hc.symm.trans hc2
  obtain ⟨mA, O, _⟩ := ins_get I1.hok ea
  obtain ⟨od, J, _⟩ := O.look
  have K1 := PySem.W.kw_special (M := model X.prog X.w) I1.kIn J hc aN
  have K2 := PySem.W.kw_special (M := model X.prog X.w) I1.kIn J hc aX
  have K3 := PySem.W.bind_fn (M := model X.prog X.w) I1.kIn (.ref a) (beq_iff_eq.mp MN.fn)
  have K4 := PySem.W.bind_fn (M := model X.prog X.w) I1.kIn (.ref a) (beq_iff_eq.mp MX.fn)
  simp only [Bool.false_eq_true, if_false]
  refine wpAny_bind (wpAny_holding (wpAny_bind (K1.here ?_)))
  refine wpAny_bind (wpAny_pure (wpAny_bind (K3.here (wpAny_holding (wpAny_bind (K2.here ?_))))))
  refine wpAny_bind (wpAny_pure (wpAny_bind (K4.here (wpAny_pure (wpAny_holding (wpAny_bind ?_))))))
  refine wpAny_mono (run_fn (dvs := []) (ds := []) (vs := [.ref a]) (us := [.ref a]) (Q := fun _ H2 => tb (wExit a spX Wout) { nx := fun σ' H' => spX [V.ref a, .non, .non, .non] H' (fun _ H'' => D.nx σ' H'') E0, rt := fun _ _ => False } σ H2) (E := E0) FN (hr.mono hk) bN .nil pass0 I1 (.cons rfl .nil) q1) (fun v s2 ⟨y, H2, I2, ry, q2⟩ => ?_) fun _ _ z => z
  refine wpAny_bind (wpAny_pure (wpAny_bind (wpAny_attempt ?_)))
  refine PySem.Calls.wpAny_keep (with_body (D := D) (W := wExit a spX Wout) hs hf I2 q2 hb ?_ ?_)
  · intro f s3 hsp
    cases f with
    | brk => exact (let ⟨_, _, _, z⟩ := hsp; z : False).elim
    | cont => exact (let ⟨_, _, _, z⟩ := hsp; z : False).elim
    | ret u => exact (let ⟨_, _, _, _, _, z⟩ := hsp; z : False).elim
    | next =>
      obtain ⟨σ3, H3, I3, q3⟩ := hsp
      refine wpAny_bind (wpAny_standAt (wpAny_bind (wpAny_holding ?_)))
      exact wpAny_mono (run_fn (dvs := []) (ds := []) (vs := [.ref a, .non, .non, .non]) (us := [.ref a, .none, .none, .none]) (E := E0) FX (hr.mono hk) bX .nil pass0 I3 (.cons rfl (.cons rfl (.cons rfl (.cons rfl .nil)))) q3) (fun v s4 ⟨y, H4, I4, _, q4⟩ => wpAny_pure ⟨σ3, H4, I4, q4⟩) fun _ _ z => z
  · intro x T oe oT cls d σ3 H3 B sI s3 R
    obtain ⟨B2, rfl, qx⟩ := R.w
    obtain ⟨vs, hd, h1⟩ := R.ed
    obtain ⟨ts, dT, t3⟩ := R.td
    obtain ⟨gx, nx, _⟩ := R.inv.pin (x, oe) (List.mem_append_left _ List.mem_cons_self)
    obtain ⟨gT, nT, _⟩ := R.inv.pin (T, oT) (List.mem_append_left _ (List.mem_cons_of_mem _ List.mem_cons_self))
    refine wpAny_bind (wpAny_standAt (wpAny_holding (wpAny_bind (wpAny_typeOf_ref gx ?_))))
    rw [R.z.1]
    have lt : 1 < ts.size := by
      have := (Array.getElem?_eq_some_iff.mp t3).1
      omega
    have out : ∀ (tv : Value) (t : V), RelV t tv → wpAny (model X.prog X.w) X.A (withItem.marked (.ref x) (.call (.ref fX) ⟨[.ref a] ++ [.ref B2, .ref x, tv], []⟩)) (fun r s4 => r = .none ∧ wpAny (model X.prog X.w) X.A (PySem.passOn "with" (.ref x) X.env) (SP X pins D) X.xe s4) X.xe s3 := fun tv t rt => by
      unfold withItem.marked
      have room : RoomH k (X.suite x ((x, oe) :: (T, oT) :: (X.pn ++ pins))).A := ⟨(hr.mono hk).dp, (hr.mono hk).un⟩
      refine wpAny_bind (wpAny_run (codeAny_mono (run_q (X := X.suite x ((x, oe) :: (T, oT) :: (X.pn ++ pins))) (E := fun _ _ => False) (vs := [.ref a, .ref B2, .ref x, t]) FQ room (p := (x, oe)) List.mem_cons_self bQ R.inv (.cons rfl (.cons rfl (.cons rfl (.cons rt .nil)))) (qx x t nx)) fun r s4 hr4 => ?_))
      obtain ⟨u, rfl, v, H4, I4, rv, ev, q4⟩ := hr4
      subst ev
      cases rv
      exact wpAny_pure ⟨rfl, on_it_goes hs hf hex I.ok tk R I4 q4⟩
    have lead : ∀ {Q : Value → Shared → Prop}, (∀ (tv : Value) (t : V), RelV t tv → Q tv s3) → wpAny (model X.prog X.w) X.A (tracebackOf (.ref x)) Q X.xe s3 := fun {Q} hq => by
      unfold tracebackOf
      refine wpAny_bind (wpAny_field gx hd h1 ?_)
      refine wpAny_bind (wpAny_field gT dT (Array.getElem?_eq_getElem lt) ?_)
      split
      · exact wpAny_pure (hq .none .non rfl)
      · exact wpAny_pure (hq (.ref T) (.ref T) rfl)
    refine wpAny_bind (lead fun tv t rt => wpAny_bind (wpAny_mono (out tv t rt) (fun r s4 ⟨er, z⟩ => ?_) fun _ _ z => z))
    subst er
    exact wpAny_bind (wpAny_pure (wpAny_bind (wpAny_pure z)))
end
end AG
namespace AG
open PySem PySem.Spec PyProof.Rows L2
section
variable {P : Program} {w : World} {K : PySem.W.Frag} {mg : Str → Option Value} {base : Heap} {c : Cs}
/-! ### is_deed -/
def spIsDeed (c : Cs) : Sp := fun vs H Q _ => ∃ (Mu : Mut1) (v : V) (dd : Deed), vs = [v] ∧ Wl Mu H ∧ DeedV c Mu H v dd ∧ DeedOk dd ∧ ∀ H', Same H H' → Q (.bl true) H'
theorem sc_is_deed : FnScope ["value"] ["value"] (defScope s_is_deed) := ⟨rfl, rfl, rfl, by decide +kernel, rfl, by decide +kernel, by decide +kernel⟩
theorem ok_is_deed (T : Txt w K mg c) : Def P w K mg base CX0 "is_deed" ["value"] 8 (spIsDeed c) := by
  obtain ⟨aR, eR, nR, cR, DR, tR⟩ := T.t_SIZES_shelf.get
  refine T.d_is_deed.def_ sc_is_deed (fun vs H Q E ⟨_, _, _, e, _⟩ => by rw [e]; rfl) (fun _ _ _ _ _ _ us hl => match us, hl with | [_], _ => rfl) fun f cdv A outer s H vs Q E hr h => ?_
  obtain ⟨Mu, v, dd, rfl, wl, dv, dk, q⟩ := h
  refine ⟨_, PSs.nox (pss_cons (ps_if (PW.pt (pw_or (pt_not (pt_val (isi .tuple T.n_isinstance (pa_cons (pv 0) (pa_cons (gty .tuple T.n_tuple bb_tuple) pa_nil))))) (pw_or (pt_cmpR op_eqC (len1 T.n_len (pa_cons (pv 0) pa_nil)) pe_int (nomark _)) (pw_or1 (pt_not (pt_val (isi .str T.n_isinstance (pa_cons (pe_ix ix_tup (pv 0) pe_int (fun _ _ => rfl)) (pa_cons (gty .str T.n_str bb_str) pa_nil))))))))) (pss_one (ps_ret pe_bl)) pss_nil)
      (pss_cons (ps_if (pt_cmpR op_neC (pe_kget (gcst cR) (pe_ix ix_tup (pv 0) pe_int (fun _ _ => rfl)) pe_int ⟨rfl, rfl, rfl, rfl⟩) (len1 T.n_len (pa_cons (pv 0) pa_nil)) (nomark _)) (pss_one (ps_ret pe_bl)) pss_nil)
      (pss_cons (ps_if (PW.pt (pw_and (pt_cmpR op_eqC (pe_ix ix_tup (pv 0) pe_int (fun _ _ => rfl)) pe_str (nomark _)) (pw_and1 (pt_not (PW.pt (pw_and (pt_val (isiC T.c_Context T.n_isinstance (pa_cons (pe_ix ix_tup (pv 0) pe_int (fun _ _ => rfl)) (pa_cons (gcls T.c_Context) pa_nil)))) (pw_and1 (pt_val (dcall (ok_is_formula T) hr (by decide) pass0 (pa_cons (pe_ix ix_tup (pv 0) pe_int (fun _ _ => rfl)) pa_nil)))))))))) (pss_one (ps_ret pe_bl)) pss_nil)
      (pss_one (ps_ret (pe_or (pe_cmpR op_eqC (pe_ix ix_tup (pv 0) pe_int (fun _ _ => rfl)) pe_str (nomark _)) (pe_one (isiC T.c_Script T.n_isinstance (pa_cons (pe_ix ix_tup (pv 0) (pe_un un_neg pe_int) (fun _ _ => rfl)) (pa_cons (gcls T.c_Script) pa_nil)))))))))), ?_⟩
  cases dd with
  | fact x rs g cs =>
    obtain ⟨a, k, gv, sv, rfl, ma, ha, hk, hg, hs⟩ := dv
    obtain ⟨r, e, ro⟩ := tR ("fact", .int 5) (by simp)
    obtain ⟨t, ⟨ak, da, rfl, mk, hak⟩, dt⟩ := hk
    have hs0 := hs
    obtain ⟨t2, u2, ⟨as, dx, rfl, ms, has⟩, _, _⟩ := hs
    refine ⟨_, rfl, rfl, .tuple, .base (.tup ha), _, rfl, iteF ?_⟩
    refine ⟨_, rfl, _, .inr ⟨_, SqT.of ha, rfl⟩, rfl, fun z => absurd (V.int.inj z) (show ¬ ((5 : Nat) : Int) = 0 by decide), fun _ => ⟨_, rfl, iteF ?_⟩⟩
    refine ⟨_, rfl, a, _, _, _, rfl, rfl, SqT.of ha, rfl, rfl, .str, .base (.str _), _, rfl, iteF ?_⟩
    refine ⟨aR, eR, nR, rfl, DR, _, rfl, a, _, _, _, rfl, rfl, SqT.of ha, rfl, "fact", r, _, rfl, e, ro, _, rfl, _, .inr ⟨_, SqT.of ha, rfl⟩, rfl, fun _ => ⟨_, rfl, iteF ?_⟩, fun z => absurd rfl z⟩
    refine ⟨_, rfl, a, _, _, _, rfl, rfl, SqT.of ha, rfl, rfl, fun _ => ⟨_, rfl, iteT ?_⟩, fun z => absurd rfl z⟩
    refine ⟨_, rfl, a, _, _, _, rfl, rfl, SqT.of ha, rfl, ak, da, _, rfl, hak, _, rfl, iteT ?_⟩
    refine ⟨_, rfl, a, _, _, _, rfl, rfl, SqT.of ha, rfl, Mu, gv, g, rfl, wl, hg, EntOk.go dk, EntOk.gd dk, fun H1 s1 => ⟨_, rfl, iteF ?_⟩⟩
    have ha1 := s1 _ _ ha
    refine ⟨_, rfl, a, _, _, _, rfl, rfl, SqT.of ha1, rfl, rfl, fun z => absurd z (by decide +kernel), fun _ => ?_⟩
    exact ⟨_, rfl, iteF ⟨_, rfl, _, rfl, a, _, _, _, rfl, rfl, SqT.of ha1, rfl, as, dx, _, rfl, s1 _ _ has, q _ s1⟩⟩
  | script x cs =>
    obtain ⟨a, sv, rfl, ma, ha, hs⟩ := dv
    obtain ⟨r, e, ro⟩ := tR ("script", .int 3) (by simp)
    obtain ⟨t2, u2, ⟨as, dx, rfl, ms, has⟩, _, _⟩ := hs
    refine ⟨_, rfl, rfl, .tuple, .base (.tup ha), _, rfl, iteF ?_⟩
    refine ⟨_, rfl, _, .inr ⟨_, SqT.of ha, rfl⟩, rfl, fun z => absurd (V.int.inj z) (show ¬ ((3 : Nat) : Int) = 0 by decide), fun _ => ⟨_, rfl, iteF ?_⟩⟩
    refine ⟨_, rfl, a, _, _, _, rfl, rfl, SqT.of ha, rfl, rfl, .str, .base (.str _), _, rfl, iteF ?_⟩
    refine ⟨aR, eR, nR, rfl, DR, _, rfl, a, _, _, _, rfl, rfl, SqT.of ha, rfl, "script", r, _, rfl, e, ro, _, rfl, _, .inr ⟨_, SqT.of ha, rfl⟩, rfl, fun _ => ⟨_, rfl, iteF ?_⟩, fun z => absurd rfl z⟩
    refine ⟨_, rfl, a, _, _, _, rfl, rfl, SqT.of ha, rfl, rfl, fun z => absurd z (by decide +kernel), fun _ => ⟨_, rfl, iteF (iteF ?_)⟩⟩
    refine ⟨_, rfl, a, _, _, _, rfl, rfl, SqT.of ha, rfl, rfl, fun z => absurd z (by decide +kernel), fun _ => ?_⟩
    exact ⟨_, rfl, iteF ⟨_, rfl, _, rfl, a, _, _, _, rfl, rfl, SqT.of ha, rfl, as, dx, _, rfl, has, q _ (.refl _)⟩⟩
  | drop x =>
    obtain ⟨a, rfl, ma, ha⟩ := dv
    obtain ⟨r, e, ro⟩ := tR ("drop", .int 2) (by simp)
    refine ⟨_, rfl, rfl, .tuple, .base (.tup ha), _, rfl, iteF ?_⟩
    refine ⟨_, rfl, _, .inr ⟨_, SqT.of ha, rfl⟩, rfl, fun z => absurd (V.int.inj z) (show ¬ ((2 : Nat) : Int) = 0 by decide), fun _ => ⟨_, rfl, iteF ?_⟩⟩
    refine ⟨_, rfl, a, _, _, _, rfl, rfl, SqT.of ha, rfl, rfl, .str, .base (.str _), _, rfl, iteF ?_⟩
    refine ⟨aR, eR, nR, rfl, DR, _, rfl, a, _, _, _, rfl, rfl, SqT.of ha, rfl, "drop", r, _, rfl, e, ro, _, rfl, _, .inr ⟨_, SqT.of ha, rfl⟩, rfl, fun _ => ⟨_, rfl, iteF ?_⟩, fun z => absurd rfl z⟩
    refine ⟨_, rfl, a, _, _, _, rfl, rfl, SqT.of ha, rfl, rfl, fun z => absurd z (by decide +kernel), fun _ => ⟨_, rfl, iteF (iteF ?_)⟩⟩
    exact ⟨_, rfl, a, _, _, _, rfl, rfl, SqT.of ha, rfl, rfl, fun _ => ⟨_, rfl, iteT (q _ (.refl _))⟩, fun z => absurd rfl z⟩
end
end AG
namespace AG
open PySem PySem.Spec PyProof.Rows L2
/-! ### what may change goes on -/
/-- from H to H': only what may change does, what may change from now on was so or is new -/
structure Tr (Mu : Mut1) (H : Hp) (Mv : Mut1) (H' : Hp) : Prop where
  wl : Wl Mv H'
  up : ∀ b, Mu b → Mv b
  new : ∀ b, Mv b → Mu b ∨ H b = none
  kp : Kp Mu H H'
theorem Tr.refl {Mu : Mut1} {H : Hp} (w : Wl Mu H) : Tr Mu H Mu H := ⟨w, fun _ m => m, fun _ m => .inl m, .refl _⟩
theorem Tr.ofSame {Mu : Mut1} {H H' : Hp} (w : Wl Mu H) (s : Same H H') : Tr Mu H Mu H' := ⟨w.same s, fun _ m => m, fun _ m => .inl m, .ofSame s⟩
theorem Tr.ofKp {Mu : Mut1} {H H' : Hp} (w : Wl Mu H) (k : Kp Mu H H') : Tr Mu H Mu H' := ⟨w.kp k, fun _ m => m, fun _ m => .inl m, k⟩
theorem Tr.trans {Mu Mv Mw : Mut1} {H H1 H2 : Hp} (a : Tr Mu H Mv H1) (b : Tr Mv H1 Mw H2) : Tr Mu H Mw H2 :=
  ⟨b.wl, fun x m => b.up x (a.up x m), fun x m => (b.new x m).elim (a.new x) fun n => .inr (a.kp.fresh n), ⟨fun x o m h => b.kp.at_ x o (fun z => (a.new x z).elim m fun n => by rw [n] at h; cases h) (a.kp.at_ x o m h), fun x h => b.kp.there x (a.kp.there x h)⟩⟩
/-- an address more that may change -/
theorem Tr.add {Mu : Mut1} {H H' : Hp} {p : Addr} (w : Wl Mu H) (s : Kp Mu H H') (n : H p = none) (h : H' p ≠ none) : Tr Mu H (wi Mu p) H' :=
  ⟨fun b m => m.elim (fun m => s.there b (w b m)) fun e => (show b = p from e) ▸ h, fun _ m => .inl m, fun b m => m.imp id fun e => (show b = p from e) ▸ n, s⟩
theorem Tr.off {Mu Mv : Mut1} {H H' : Hp} {b : Addr} {o : HO} (t : Tr Mu H Mv H') (m : ¬ Mu b) (h : H b = some o) : ¬ Mv b := AG.off t.new m h
theorem Tr.fresh {Mu Mv : Mut1} {H H' : Hp} (t : Tr Mu H Mv H') {b : Addr} (n : H' b = none) : H b = none := t.kp.fresh n
theorem Kp.up {Mu Mv : Mut1} {H H1 H' : Hp} (k : Kp Mu H H') (g : ∀ b, Mu b → Mv b) : Kp Mv H H' := k.wide g
theorem Dat.tr {Mu Mv : Mut1} {H H' : Hp} {v : V} {d : PyData} (h : Dat Mu H v d) (t : Tr Mu H Mv H') : Dat Mv H' v d := (h.grow t.new).keep (t.kp.wide t.up)
theorem Dats.tr {Mu Mv : Mut1} {H H' : Hp} {v : List V} {d : List PyData} (h : Dats Mu H v d) (t : Tr Mu H Mv H') : Dats Mv H' v d := (h.grow t.new).keep (t.kp.wide t.up)
theorem Ctx.tr {c : Cs} {Mu Mv : Mut1} {H H' : Hp} {v : V} {rs : List Row} (h : Ctx c Mu H v rs) (t : Tr Mu H Mv H') : Ctx c Mv H' v rs := (h.grow t.new).keep (t.kp.wide t.up)
theorem Scr.tr {c : Cs} {Mu Mv : Mut1} {H H' : Hp} {v : V} {cs : List Cm} (h : Scr c Mu H v cs) (t : Tr Mu H Mv H') : Scr c Mv H' v cs := (h.grow t.new).keep (t.kp.wide t.up)
theorem Cont.tr {c : Cs} {Mu Mv : Mut1} {H H' : Hp} {d : Addr} {es : List Ent} (h : Cont c Mu H d es) (t : Tr Mu H Mv H') : Cont c Mv H' d es := (h.grow t.new).keep (t.kp.wide t.up)
theorem DeedV.tr {c : Cs} {Mu Mv : Mut1} {H H' : Hp} {v : V} {d : Deed} (h : DeedV c Mu H v d) (t : Tr Mu H Mv H') : DeedV c Mv H' v d := (h.grow t.new).keep (t.kp.wide t.up)
/-! ### the shelf -/
/-- its record -/
def ShlF (c : Cs) (H : Hp) (S dx d p f h : Addr) (b : Bool) (lim : Nat) : Prop :=
  H S = some (.ins c.Shelf dx [("content", .ref d), ("past", .ref p), ("future", .ref f), ("held", .ref h), ("working", .bl b), ("reckoned", .int 0), ("own_limit", .int lim)])
abbrev Conts (c : Cs) (Mu : Mut1) (H : Hp) : List V → List (List Ent) → Prop := Paired fun v es => ∃ d, v = .ref d ∧ Cont c Mu H d es
theorem Conts.tr {c : Cs} {Mu Mv : Mut1} {H H' : Hp} (t : Tr Mu H Mv H') : ∀ {vs : List V} {es : List (List Ent)}, Conts c Mu H vs es → Conts c Mv H' vs es
  | _, _, .nil => .nil
  | _, _, .cons ⟨d, e, h⟩ r => .cons ⟨d, e, h.tr t⟩ (Conts.tr t r)
theorem Conts.len {c : Cs} {Mu : Mut1} {H : Hp} : ∀ {vs : List V} {es : List (List Ent)}, Conts c Mu H vs es → vs.length = es.length
  | _, _, .nil => rfl
  | _, _, .cons _ r => congrArg Nat.succ (Conts.len r)
/-- the shelf's state -/
structure Sta where
  con : List Ent
  past : List (List Ent)
  fut : List (List Ent)
/-- S is a shelf in the state -/
structure Shl (c : Cs) (Mu : Mut1) (H : Hp) (S : Addr) (lim : Nat) (st : Sta) : Prop where
  ex : ∃ dx d p f h ps fs, ShlF c H S dx d p f h false lim ∧ Mu S ∧ Mu p ∧ Mu f ∧ p ≠ f ∧ H p = some (.lst ps) ∧ H f = some (.lst fs) ∧ H h = some (.dK []) ∧ ¬ Mu h ∧ Cont c Mu H d st.con ∧ Conts c Mu H ps st.past ∧ Conts c Mu H fs st.fut
end AG
namespace AG
open PySem PySem.Spec PyProof.Rows L2
section
variable {P : Program} {w : World} {K : PySem.W.Frag} {mg : Str → Option Value} {base : Heap} {c : Cs}
/-! ### Changing -/
def spChgInit (c : Cs) : Sp := fun vs H Q _ => ∃ (x dx : Addr) (v : V), vs = [.ref x, v] ∧ H x = some (.ins c.Changing dx []) ∧ Q .non (upd H x (.ins c.Changing dx [("house", v)]))
theorem sc_Changing___init__ : FnScope ["self", "shelf"] ["self", "shelf"] (defScope s_Changing___init__) := ⟨rfl, rfl, rfl, by decide +kernel, rfl, by decide +kernel, by decide +kernel⟩
theorem ok_Changing (T : Txt w K mg c) : KDef P w K mg base CX0 "Changing" c.Changing ["self", "shelf"] [] 1 (spChgInit c) := by
  obtain ⟨f, fd, M, F⟩ := T.mk_Changing.ex
  refine ⟨T.c_Changing.at_, f, fd, [], M, F.ok sc_Changing___init__ (fun vs H Q E ⟨_, _, _, e, _⟩ => by rw [e]; rfl) (fun cdv A outer s H vs Q E hr h => ?_), F.bindsN (fun _ _ _ _ _ _ us hl => match us, hl with | [_, _], _ => rfl), .nil⟩
  obtain ⟨x, dx, v, rfl, hx, q⟩ := h
  refine ⟨_, PSs.nox (pss_one (ps_fld (pv 0) (pv 1) rfl)), ?_⟩
  exact ⟨_, rfl, _, rfl, x, _, dx, _, rfl, hx, T.c_Changing.cl, T.f_Changing_house, (by show 0 < 1000; decide), q⟩
def spEnter (c : Cs) : Sp := fun vs H Q _ => ∃ (x dx S dS : Addr) (fs : List (Str × V)), vs = [.ref x] ∧ H x = some (.ins c.Changing dx [("house", .ref S)]) ∧ H S = some (.ins c.Shelf dS fs) ∧ fs.length < 1000 ∧ Q (.ref x) (upd H S (.ins c.Shelf dS (putF "working" (.bl true) fs)))
theorem sc_Changing___enter__ : FnScope ["self"] ["self"] (defScope s_Changing___enter__) := ⟨rfl, rfl, rfl, by decide +kernel, rfl, by decide +kernel, by decide +kernel⟩
theorem ok_Changing___enter__ (T : Txt w K mg c) : MDef P w K mg base CX0 c.Changing "__enter__" ["self"] 1 (spEnter c) := by
  refine T.m_Changing___enter__.def_ T.c_Changing.cl sc_Changing___enter__ (fun vs H Q E ⟨_, _, _, _, _, e, _⟩ => by rw [e]; rfl) (fun _ _ _ _ _ _ us hl => match us, hl with | [_], _ => rfl) fun f cdv A outer s H vs Q E hr h => ?_
  obtain ⟨x, dx, S, dS, fs, rfl, hx, hS, hl, q⟩ := h
  refine ⟨_, PSs.nox (pss_cons (ps_fld (pe_fld (pv 0) rfl) pe_bl rfl) (pss_one (ps_ret (pv 0)))), ?_⟩
  exact ⟨_, rfl, x, _, dx, _, _, rfl, hx, T.c_Changing.cl, T.f_Changing_house, rfl, S, _, dS, _, rfl, hS, T.c_Shelf.cl, T.f_Shelf_working, hl, _, rfl, q⟩
def spExit (c : Cs) : Sp := fun vs H Q _ => ∃ (x dx S dS : Addr) (fs : List (Str × V)) (k v t : V), vs = [.ref x, k, v, t] ∧ H x = some (.ins c.Changing dx [("house", .ref S)]) ∧ H S = some (.ins c.Shelf dS fs) ∧ fs.length < 1000 ∧ Q .non (upd H S (.ins c.Shelf dS (putF "working" (.bl false) fs)))
theorem sc_Changing___exit__ : FnScope ["self", "kind", "value", "trace"] ["self", "kind", "value", "trace"] (defScope s_Changing___exit__) := ⟨rfl, rfl, rfl, by decide +kernel, rfl, by decide +kernel, by decide +kernel⟩
theorem ok_Changing___exit__ (T : Txt w K mg c) : MDef P w K mg base CX0 c.Changing "__exit__" ["self", "kind", "value", "trace"] 1 (spExit c) := by
  refine T.m_Changing___exit__.def_ T.c_Changing.cl sc_Changing___exit__ (fun vs H Q E ⟨_, _, _, _, _, _, _, _, e, _⟩ => by rw [e]; rfl) (fun _ _ _ _ _ _ us hl => match us, hl with | [_, _, _, _], _ => rfl) fun f cdv A outer s H vs Q E hr h => ?_
  obtain ⟨x, dx, S, dS, fs, k, v, t, rfl, hx, hS, hl, q⟩ := h
  refine ⟨_, PSs.nox (pss_one (ps_fld (pe_fld (pv 0) rfl) pe_bl rfl)), ?_⟩
  exact ⟨_, rfl, x, _, dx, _, _, rfl, hx, T.c_Changing.cl, T.f_Changing_house, rfl, S, _, dS, _, rfl, hS, T.c_Shelf.cl, T.f_Shelf_working, hl, q⟩
theorem hot_Changing___exit__ (T : Txt w K mg c) (f : Addr) (hm : Meth K c.Changing "__exit__" f) : ∃ fd, QFn P w K mg base 1 f fd ["self", "kind", "value", "trace"] (spExit c) ∧ Binds K fd ["self", "kind", "value", "trace"] [] := by
  obtain ⟨f2, fd, M, F⟩ := T.m_Changing___exit__.ex
  have e : f = f2 := by
    have := hm.at_.symm.trans M.at_
    injection this with this
    injection this with this
    injection this
  subst e
  refine ⟨fd, q_of F sc_Changing___exit__ (fun vs H Q E ⟨_, _, _, _, _, _, _, _, e, _⟩ => by rw [e]; rfl) (fun cdv A outer s H vs Q p room pin h => ?_), F.bindsN (fun _ _ _ _ _ _ us hl => match us, hl with | [_, _, _, _], _ => rfl)⟩
  obtain ⟨x, dx, S, dS, fs, k, v, t, rfl, hx, hS, hl, q⟩ := h
  refine ⟨_, pss_one (ps_fld (pe_fld (pv 0) rfl) pe_bl rfl), ?_⟩
  exact ⟨_, rfl, x, _, dx, _, _, rfl, hx, T.c_Changing.cl, T.f_Changing_house, rfl, S, _, dS, _, rfl, hS, T.c_Shelf.cl, T.f_Shelf_working, hl, q⟩
end
end AG
namespace AG
open PySem PySem.Spec PyProof.Rows L2
section
variable {P : Program} {w : World} {K : PySem.W.Frag} {mg : Str → Option Value} {base : Heap} {c : Cs}
/-- the shelf's content -/
def ShC (c : Cs) (Mu : Mut1) (H : Hp) (S d : Addr) (es : List Ent) : Prop := ∃ dx p f h b lim, ShlF c H S dx d p f h b lim ∧ Cont c Mu H d es
/-! ### need_limit -/
def spNeedLim (c : Cs) : Sp := fun vs H Q _ => ∃ (S dx d : Addr) (fs : List (Str × V)) (n : Nat), vs = [.ref S, .int n] ∧ H S = some (.ins c.Shelf dx fs) ∧ fs.lookup ("content" : Str) = some (.ref d) ∧ H d = some (.dK []) ∧ 1 ≤ n ∧ n ≤ 20 ∧ Q .non H
theorem sc_Shelf_need_limit : FnScope ["self", "value"] ["self", "value"] (defScope s_Shelf_need_limit) := ⟨rfl, rfl, rfl, by decide +kernel, rfl, by decide +kernel, by decide +kernel⟩
theorem ok_Shelf_need_limit (T : Txt w K mg c) : MDef P w K mg base CX0 c.Shelf "need_limit" ["self", "value"] 2 (spNeedLim c) := by
  refine T.m_Shelf_need_limit.def_ T.c_Shelf.cl sc_Shelf_need_limit (fun vs H Q E ⟨_, _, _, _, _, e, _⟩ => by rw [e]; rfl) (fun _ _ _ _ _ _ us hl => match us, hl with | [_, _], _ => rfl) fun f cdv A outer s H vs Q E hr h => ?_
  obtain ⟨S, dx, d, fs, n, rfl, hS, hl, hd, h1, h2, q⟩ := h
  refine ⟨_, PSs.nox (pss_one (ps_if (PW.pt (pw_or (pt_not (pt_val (dcall (ok_is_number T) hr (by decide) pass0 (pa_cons (pv 1) pa_nil)))) (pw_or1 (pt_not (pt_chain op_le op_le (pe_callB (call_max2 rfl) (by rfl) T.n_max (by decide +kernel) (pa_cons pe_int (pa_cons (pe_callB call_lenD (by rfl) T.n_len PySem.boot_len (pa_cons (pe_fld (pv 0) rfl) pa_nil)) pa_nil))) (pv 1) (gcst T.k_MOST_ENTRIES)))))) (pss_one ps_never) pss_nil)), ?_⟩
  refine ⟨_, rfl, _, rfl, _, rfl, iteF ?_⟩
  refine ⟨_, rfl, S, _, dx, fs, _, rfl, hS, T.c_Shelf.cl, T.f_Shelf_content, hl, d, [], rfl, hd, _, _, rfl, ?_⟩
  refine ⟨_, rfl, _, _, rfl, rfl, _, rfl, ?_⟩
  refine Eq.mpr (if_pos (decide_eq_true (show (1 : Int) ≤ (n : Int) by omega))) ?_
  refine ⟨_, _, rfl, rfl, _, rfl, ?_⟩
  rw [decide_eq_true (by omega)]
  exact iteF q
/-! ### busy -/
def spBusy (c : Cs) : Sp := fun vs H Q _ => ∃ (S dx : Addr) (fs : List (Str × V)) (v : V), vs = [.ref S] ∧ H S = some (.ins c.Shelf dx fs) ∧ fs.lookup ("working" : Str) = some v ∧ Q v H
theorem sc_Shelf_busy : FnScope ["self"] ["self"] (defScope s_Shelf_busy) := ⟨rfl, rfl, rfl, by decide +kernel, rfl, by decide +kernel, by decide +kernel⟩
theorem ok_Shelf_busy (T : Txt w K mg c) : PDef P w K mg base c.Shelf "busy" 1 (spBusy c) := by
  refine T.p_Shelf_busy.def_ T.c_Shelf.cl sc_Shelf_busy (fun vs H Q E ⟨_, _, _, _, e, _⟩ => by rw [e]; rfl) (fun _ _ _ _ _ _ us hl => match us, hl with | [_], _ => rfl) fun f cdv A outer s H vs Q E hr h => ?_
  obtain ⟨S, dx, fs, v, rfl, hS, hl, q⟩ := h
  exact ⟨_, PSs.nox (pss_one (ps_ret (pe_fld (pv 0) rfl))), ⟨_, rfl, S, _, dx, fs, v, rfl, hS, T.c_Shelf.cl, T.f_Shelf_working, hl, q⟩⟩
/-! ### need -/
def spNeed (c : Cs) : Sp := fun vs H Q _ => ∃ (Mu : Mut1) (S d : Addr) (es : List Ent) (x : Str), vs = [.ref S, .str x] ∧ ShC c Mu H S d es ∧ has es x ∧ Q .non H
theorem sc_Shelf_need : FnScope ["self", "name"] ["self", "name"] (defScope s_Shelf_need) := ⟨rfl, rfl, rfl, by decide +kernel, rfl, by decide +kernel, by decide +kernel⟩
theorem ok_Shelf_need (T : Txt w K mg c) : MDef P w K mg base CX0 c.Shelf "need" ["self", "name"] 1 (spNeed c) := by
  refine T.m_Shelf_need.def_ T.c_Shelf.cl sc_Shelf_need (fun vs H Q E ⟨_, _, _, _, _, e, _⟩ => by rw [e]; rfl) (fun _ _ _ _ _ _ us hl => match us, hl with | [_, _], _ => rfl) fun f cdv A outer s H vs Q E hr h => ?_
  obtain ⟨Mu, S, d, es, x, rfl, ⟨dx, p0, f0, h0, b0, l0, hS, md, kvs, hd, re⟩, hx, q⟩ := h
  have hu := hu_of hr
  refine ⟨_, PSs.nox (pss_one (ps_if (PW.pt (pw_or (pt_not (pt_val (isi .str T.n_isinstance (pa_cons (pv 1) (pa_cons (gty .str T.n_str bb_str) pa_nil))))) (pw_or1 (pt_cmp (pc_dnotin hu (pv 1) (pe_fld (pv 0) rfl)))))) (pss_one ps_never) pss_nil)), ?_⟩
  refine ⟨_, rfl, rfl, .str, .base (.str _), _, rfl, iteF ⟨_, rfl, _, rfl, S, _, dx, _, _, rfl, hS, T.c_Shelf.cl, T.f_Shelf_content, rfl, d, _, rfl, dgetE (.inl hd) x, _, rfl, ?_⟩⟩
  rw [re.has x, decide_eq_true hx]
  exact iteF q
/-! ### names -/
def spNames (c : Cs) : Sp := fun vs H Q _ => ∃ (Mu : Mut1) (S d : Addr) (es : List Ent), vs = [.ref S] ∧ Wl Mu H ∧ ShC c Mu H S d es ∧ ∀ p H', Same H H' → Dat Mu H' (.ref p) (.list ((names es).map PyData.str)) → H p = none → Q (.ref p) H'
theorem sc_Shelf_names : FnScope ["self"] ["self"] (defScope s_Shelf_names) := ⟨rfl, rfl, rfl, by decide +kernel, rfl, by decide +kernel, by decide +kernel⟩
theorem ok_Shelf_names (T : Txt w K mg c) : MDef P w K mg base CX0 c.Shelf "names" ["self"] 1 (spNames c) := by
  refine T.m_Shelf_names.def_ T.c_Shelf.cl sc_Shelf_names (fun vs H Q E ⟨_, _, _, _, e, _⟩ => by rw [e]; rfl) (fun _ _ _ _ _ _ us hl => match us, hl with | [_], _ => rfl) fun f cdv A outer s H vs Q E hr h => ?_
  obtain ⟨Mu, S, d, es, rfl, wl, ⟨dx, p0, f0, h0, b0, l0, hS, md, kvs, hd, re⟩, q⟩ := h
  refine ⟨_, PSs.nox (pss_one (ps_ret (pe_callTy (call_listD rfl) (by rfl) T.n_list bb_list (pa_cons (pe_fld (pv 0) rfl) pa_nil)))), ?_⟩
  refine ⟨_, rfl, S, _, dx, _, _, rfl, hS, T.c_Shelf.cl, T.f_Shelf_content, rfl, d, kvs, rfl, .inl hd, fun p np => ?_⟩
  have e : kvs.map (fun kv => kV kv.1) = (names es).map V.str := by
    have := congrArg (List.map kV) re.keys
    rw [List.map_map, List.map_map] at this
    exact this
  rw [e]
  exact q p _ (same_new np) (.lst (wl.new np) upd_same (dats_strs _)) np
/-! ### len, in, repr -/
def spShLen (c : Cs) : Sp := fun vs H Q _ => ∃ (Mu : Mut1) (S d : Addr) (es : List Ent), vs = [.ref S] ∧ ShC c Mu H S d es ∧ Q (.int (es.length : Nat)) H
theorem sc_Shelf___len__ : FnScope ["self"] ["self"] (defScope s_Shelf___len__) := ⟨rfl, rfl, rfl, by decide +kernel, rfl, by decide +kernel, by decide +kernel⟩
theorem ok_Shelf___len__ (T : Txt w K mg c) : MDef P w K mg base CX0 c.Shelf "__len__" ["self"] 1 (spShLen c) := by
  refine T.m_Shelf___len__.def_ T.c_Shelf.cl sc_Shelf___len__ (fun vs H Q E ⟨_, _, _, _, e, _⟩ => by rw [e]; rfl) (fun _ _ _ _ _ _ us hl => match us, hl with | [_], _ => rfl) fun f cdv A outer s H vs Q E hr h => ?_
  obtain ⟨Mu, S, d, es, rfl, ⟨dx, p0, f0, h0, b0, l0, hS, md, kvs, hd, re⟩, q⟩ := h
  refine ⟨_, PSs.nox (pss_one (ps_ret (pe_callB call_lenD (by rfl) T.n_len PySem.boot_len (pa_cons (pe_fld (pv 0) rfl) pa_nil)))), ?_⟩
  refine ⟨_, rfl, S, _, dx, _, _, rfl, hS, T.c_Shelf.cl, T.f_Shelf_content, rfl, d, kvs, rfl, hd, ?_⟩
  rw [re.len]
  exact q
def spShIn (c : Cs) : Sp := fun vs H Q _ => ∃ (Mu : Mut1) (S d : Addr) (es : List Ent) (x : Str), vs = [.ref S, .str x] ∧ ShC c Mu H S d es ∧ Q (.bl (decide (has es x))) H
theorem sc_Shelf___contains__ : FnScope ["self", "x"] ["self", "x"] (defScope s_Shelf___contains__) := ⟨rfl, rfl, rfl, by decide +kernel, rfl, by decide +kernel, by decide +kernel⟩
theorem ok_Shelf___contains__ (T : Txt w K mg c) : MDef P w K mg base CX0 c.Shelf "__contains__" ["self", "x"] 1 (spShIn c) := by
  refine T.m_Shelf___contains__.def_ T.c_Shelf.cl sc_Shelf___contains__ (fun vs H Q E ⟨_, _, _, _, _, e, _⟩ => by rw [e]; rfl) (fun _ _ _ _ _ _ us hl => match us, hl with | [_, _], _ => rfl) fun f cdv A outer s H vs Q E hr h => ?_
  obtain ⟨Mu, S, d, es, x, rfl, ⟨dx, p0, f0, h0, b0, l0, hS, md, kvs, hd, re⟩, q⟩ := h
  have hu := hu_of hr
  refine ⟨_, PSs.nox (pss_one (ps_ret (pe_and (isi .str T.n_isinstance (pa_cons (pv 1) (pa_cons (gty .str T.n_str bb_str) pa_nil))) (pe_one (pe_cmp (pc_din hu (pv 1) (pe_fld (pv 0) rfl))))))), ?_⟩
  refine ⟨_, rfl, rfl, .str, .base (.str _), _, rfl, iteT ⟨_, rfl, _, rfl, S, _, dx, _, _, rfl, hS, T.c_Shelf.cl, T.f_Shelf_content, rfl, d, _, rfl, dgetE (.inl hd) x, ?_⟩⟩
  rw [re.has x]
  exact q
/-- what the shelf shows of itself -/
def reprS (n : Nat) : Str := Str.empty ++ ("Shelf(" : Str) ++ (toString ((n : Nat) : Int) : Str) ++ (" entries)" : Str)
def spShRepr (c : Cs) : Sp := fun vs H Q _ => ∃ (Mu : Mut1) (S d : Addr) (es : List Ent), vs = [.ref S] ∧ ShC c Mu H S d es ∧ es.length ≤ 8 ∧ Q (.str (reprS es.length)) H
theorem sc_Shelf___repr__ : FnScope ["self"] ["self"] (defScope s_Shelf___repr__) := ⟨rfl, rfl, rfl, by decide +kernel, rfl, by decide +kernel, by decide +kernel⟩
theorem ok_Shelf___repr__ (T : Txt w K mg c) : MDef P w K mg base CX0 c.Shelf "__repr__" ["self"] 1 (spShRepr c) := by
  refine T.m_Shelf___repr__.def_ T.c_Shelf.cl sc_Shelf___repr__ (fun vs H Q E ⟨_, _, _, _, e, _⟩ => by rw [e]; rfl) (fun _ _ _ _ _ _ us hl => match us, hl with | [_], _ => rfl) fun f cdv A outer s H vs Q E hr h => ?_
  obtain ⟨Mu, S, d, es, rfl, sc, hz, q⟩ := h
  have sc0 := sc
  obtain ⟨dx, p0, f0, h0, b0, l0, hS, md, kvs, hd, re⟩ := sc
  refine ⟨_, PSs.nox (pss_one (ps_ret (pe_joined (.cons pe_str (.cons (pe_fmt (pe_callB call_lenD (by rfl) T.n_len PySem.boot_len (pa_cons (pe_fld (pv 0) rfl) pa_nil))) (.cons pe_str .nil)))))), ?_⟩
  have z0 : (Str.empty ++ ("Shelf(" : Str)).length ≤ sizeLine := by decide +kernel
  refine ⟨_, rfl, z0, _, rfl, S, _, dx, _, _, rfl, hS, T.c_Shelf.cl, T.f_Shelf_content, rfl, d, kvs, rfl, hd, .inr ⟨_, rfl, ?_⟩⟩
  rw [re.len]
  generalize es.length = n at hz q
  have all : (((n : Nat) : Int).natAbs.log2 < 1920) ∧ (Str.empty ++ ("Shelf(" : Str) ++ (toString ((n : Nat) : Int) : Str)).length ≤ sizeLine ∧ (reprS n).length ≤ sizeLine := by
    have cases9 : n = 0 ∨ n = 1 ∨ n = 2 ∨ n = 3 ∨ n = 4 ∨ n = 5 ∨ n = 6 ∨ n = 7 ∨ n = 8 := by omega
    rcases cases9 with e | e | e | e | e | e | e | e | e <;> (rw [e]; decide +kernel)
  exact ⟨all.1, _, rfl, all.2.1, _, rfl, all.2.2, q⟩
/-! ### history -/
def spHist (c : Cs) : Sp := fun vs H Q _ => ∃ (Mu : Mut1) (S : Addr) (lim : Nat) (st : Sta), vs = [.ref S] ∧ Wl Mu H ∧ Shl c Mu H S lim st ∧ ∀ v H', Same H H' → Dat Mu H' v (.tuple [.int (st.past.length : Nat), .int (st.fut.length : Nat)]) → Q v H'
theorem sc_Shelf_history : FnScope ["self"] ["self"] (defScope s_Shelf_history) := ⟨rfl, rfl, rfl, by decide +kernel, rfl, by decide +kernel, by decide +kernel⟩
theorem ok_Shelf_history (T : Txt w K mg c) : MDef P w K mg base CX0 c.Shelf "history" ["self"] 1 (spHist c) := by
  refine T.m_Shelf_history.def_ T.c_Shelf.cl sc_Shelf_history (fun vs H Q E ⟨_, _, _, _, e, _⟩ => by rw [e]; rfl) (fun _ _ _ _ _ _ us hl => match us, hl with | [_], _ => rfl) fun f cdv A outer s H vs Q E hr h => ?_
  obtain ⟨Mu, S, lim, st, rfl, wl, ⟨dx, d, p, f2, h2, ps, fs, hS, mS, mp, mf, ne, hp, hf, hh, mh, hc, hP, hF⟩, q⟩ := h
  refine ⟨_, PSs.nox (pss_one (ps_ret (pe_tup (pa_cons (len1 T.n_len (pa_cons (pe_fld (pv 0) rfl) pa_nil)) (pa_cons (len1 T.n_len (pa_cons (pe_fld (pv 0) rfl) pa_nil)) pa_nil))))), ?_⟩
  refine ⟨_, rfl, S, _, dx, _, _, rfl, hS, T.c_Shelf.cl, T.f_Shelf_past, rfl, _, .inl ⟨_, SqL.of hp, rfl⟩, _, rfl, S, _, dx, _, _, rfl, hS, T.c_Shelf.cl, T.f_Shelf_future, rfl, _, .inl ⟨_, SqL.of hf, rfl⟩, (by show 2 ≤ sizeLine; decide), fun a na => ?_⟩
  refine q _ _ (same_new na) (.tup (wl.new na) upd_same (.cons ?_ (.cons ?_ .nil)))
  · rw [hP.len]
    exact .int _
  · rw [hF.len]
    exact .int _
/-! ### claim_of, statement, users, rests -/
def spShOf (c : Cs) : (Addr → List Ent → Str → Sp) → Sp := fun G vs H Q E => ∃ (Mu : Mut1) (S d : Addr) (es : List Ent) (x : Str), vs = [.ref S, .str x] ∧ ShC c Mu H S d es ∧ has es x ∧ G d es x [.ref d, .str x] H Q E
theorem sc_Shelf_claim_of : FnScope ["self", "name"] ["self", "name"] (defScope s_Shelf_claim_of) := ⟨rfl, rfl, rfl, by decide +kernel, rfl, by decide +kernel, by decide +kernel⟩
theorem ok_Shelf_claim_of (T : Txt w K mg c) : MDef P w K mg base CX0 c.Shelf "claim_of" ["self", "name"] 12 (spShOf c fun _ _ _ vs H Q E => spClaimIn c vs H Q E) := by
  refine T.m_Shelf_claim_of.def_ T.c_Shelf.cl sc_Shelf_claim_of (fun vs H Q E ⟨_, _, _, _, _, e, _⟩ => by rw [e]; rfl) (fun _ _ _ _ _ _ us hl => match us, hl with | [_, _], _ => rfl) fun f cdv A outer s H vs Q E hr h => ?_
  obtain ⟨Mu, S, d, es, x, rfl, sc, hx, q⟩ := h
  have sc0 := sc
  obtain ⟨dx, p0, f0, h0, b0, l0, hS, _⟩ := sc
  refine ⟨_, PSs.nox (pss_cons (ps_expr (mcall (ok_Shelf_need T) hr (by decide) pass0 (pv 0) (pa_cons (pv 1) pa_nil)))
      (pss_one (ps_ret (dcall (ok_claim_in T) hr (by decide) pass0 (pa_cons (pe_fld (pv 0) rfl) (pa_cons (pv 1) pa_nil)))))), ?_⟩
  refine ⟨_, rfl, S, dx, _, rfl, hS, rfl, _, rfl, Mu, S, d, es, x, rfl, sc0, hx, ?_⟩
  exact ⟨_, rfl, S, _, dx, _, _, rfl, hS, T.c_Shelf.cl, T.f_Shelf_content, rfl, _, rfl, q⟩
end
end AG
namespace AG
open PySem PySem.Spec PyProof.Rows L2
section
variable {P : Program} {w : World} {K : PySem.W.Frag} {mg : Str → Option Value} {base : Heap} {c : Cs}
theorem sc_Shelf_users : FnScope ["self", "name"] ["self", "name"] (defScope s_Shelf_users) := ⟨rfl, rfl, rfl, by decide +kernel, rfl, by decide +kernel, by decide +kernel⟩
theorem ok_Shelf_users (T : Txt w K mg c) : MDef P w K mg base CX0 c.Shelf "users" ["self", "name"] 6 (spShOf c fun _ _ _ vs H Q E => spUsers c vs H Q E) := by
  refine T.m_Shelf_users.def_ T.c_Shelf.cl sc_Shelf_users (fun vs H Q E ⟨_, _, _, _, _, e, _⟩ => by rw [e]; rfl) (fun _ _ _ _ _ _ us hl => match us, hl with | [_, _], _ => rfl) fun f cdv A outer s H vs Q E hr h => ?_
  obtain ⟨Mu, S, d, es, x, rfl, sc, hx, q⟩ := h
  have sc0 := sc
  obtain ⟨dx, p0, f0, h0, b0, l0, hS, _⟩ := sc
  refine ⟨_, PSs.nox (pss_cons (ps_expr (mcall (ok_Shelf_need T) hr (by decide) pass0 (pv 0) (pa_cons (pv 1) pa_nil)))
      (pss_one (ps_ret (dcall (ok_users_in T) hr (by decide) pass0 (pa_cons (pe_fld (pv 0) rfl) (pa_cons (pv 1) pa_nil)))))), ?_⟩
  refine ⟨_, rfl, S, dx, _, rfl, hS, rfl, _, rfl, Mu, S, d, es, x, rfl, sc0, hx, ?_⟩
  exact ⟨_, rfl, S, _, dx, _, _, rfl, hS, T.c_Shelf.cl, T.f_Shelf_content, rfl, _, rfl, q⟩
theorem sc_Shelf_rests : FnScope ["self", "name"] ["self", "name"] (defScope s_Shelf_rests) := ⟨rfl, rfl, rfl, by decide +kernel, rfl, by decide +kernel, by decide +kernel⟩
theorem ok_Shelf_rests (T : Txt w K mg c) : MDef P w K mg base CX0 c.Shelf "rests" ["self", "name"] 6 (spShOf c fun _ _ _ vs H Q E => spRests c vs H Q E) := by
  refine T.m_Shelf_rests.def_ T.c_Shelf.cl sc_Shelf_rests (fun vs H Q E ⟨_, _, _, _, _, e, _⟩ => by rw [e]; rfl) (fun _ _ _ _ _ _ us hl => match us, hl with | [_, _], _ => rfl) fun f cdv A outer s H vs Q E hr h => ?_
  obtain ⟨Mu, S, d, es, x, rfl, sc, hx, q⟩ := h
  have sc0 := sc
  obtain ⟨dx, p0, f0, h0, b0, l0, hS, _⟩ := sc
  refine ⟨_, PSs.nox (pss_cons (ps_expr (mcall (ok_Shelf_need T) hr (by decide) pass0 (pv 0) (pa_cons (pv 1) pa_nil)))
      (pss_one (ps_ret (dcall (ok_rests_on T) hr (by decide) pass0 (pa_cons (pe_fld (pv 0) rfl) (pa_cons (pv 1) pa_nil)))))), ?_⟩
  refine ⟨_, rfl, S, dx, _, rfl, hS, rfl, _, rfl, Mu, S, d, es, x, rfl, sc0, hx, ?_⟩
  exact ⟨_, rfl, S, _, dx, _, _, rfl, hS, T.c_Shelf.cl, T.f_Shelf_content, rfl, _, rfl, q⟩
def spShStat (c : Cs) : Sp := fun vs H Q _ => ∃ (Mu : Mut1) (S d : Addr) (es : List Ent) (x : Str), vs = [.ref S, .str x] ∧ Wl Mu H ∧ ShC c Mu H S d es ∧ (∀ e ∈ es, EntOk e) ∧ has es x ∧ ∀ q H', Same H H' → Dat Mu H' q (statesOf es x).d → Q q H'
theorem sc_Shelf_statement : FnScope ["self", "name"] ["self", "name"] (defScope s_Shelf_statement) := ⟨rfl, rfl, rfl, by decide +kernel, rfl, by decide +kernel, by decide +kernel⟩
theorem ok_Shelf_statement (T : Txt w K mg c) : MDef P w K mg base CX0 c.Shelf "statement" ["self", "name"] 3 (spShStat c) := by
  refine T.m_Shelf_statement.def_ T.c_Shelf.cl sc_Shelf_statement (fun vs H Q E ⟨_, _, _, _, _, e, _⟩ => by rw [e]; rfl) (fun _ _ _ _ _ _ us hl => match us, hl with | [_, _], _ => rfl) fun f cdv A outer s H vs Q E hr h => ?_
  obtain ⟨Mu, S, d, es, x, rfl, wl, sc, ok, hx, q⟩ := h
  have hu := hu_of hr
  have sc0 := sc
  obtain ⟨dx, p0, f0, h0, b0, l0, hS, md, kvs, hd, re⟩ := sc
  refine ⟨_, PSs.nox (pss_cons (ps_expr (mcall (ok_Shelf_need T) hr (by decide) pass0 (pv 0) (pa_cons (pv 1) pa_nil)))
      (pss_one (ps_ret (dcall (ok_statement_terms T) hr (by decide) pass0 (pa_cons (pe_ix ix_tup (pe_dget hu (pe_fld (pv 0) rfl) (pv 1) (fun _ _ => rfl)) pe_int (fun _ _ => rfl)) (pa_cons (pe_ix ix_tup (pe_dget hu (pe_fld (pv 0) rfl) (pv 1) (fun _ _ => rfl)) pe_int (fun _ _ => rfl)) pa_nil)))))), ?_⟩
  refine ⟨_, rfl, S, dx, _, rfl, hS, rfl, _, rfl, Mu, S, d, es, x, rfl, sc0, hx, ?_⟩
  obtain ⟨e, he, hem, hen⟩ := ent_some hx
  obtain ⟨v, hv, ev⟩ := re.get he
  obtain ⟨av, kx, gx, sx, rfl, mv, hv2, hk2, hg2, hs2⟩ := ev
  refine ⟨_, rfl, S, _, dx, _, _, rfl, hS, T.c_Shelf.cl, T.f_Shelf_content, rfl, _, rfl, d, _, rfl, dgetV (.inl hd) hv, av, _, _, _, rfl, rfl, SqT.of hv2, rfl, ?_⟩
  refine ⟨_, rfl, S, _, dx, _, _, rfl, hS, T.c_Shelf.cl, T.f_Shelf_content, rfl, _, rfl, d, _, rfl, dgetV (.inl hd) hv, av, _, _, _, rfl, rfl, SqT.of hv2, rfl, ?_⟩
  refine ⟨Mu, kx, gx, e.rows, e.goal, rfl, wl, hk2, hg2, (ok e hem).rl, fun q2 H2 s2 d2 => ?_⟩
  have hst : statesOf es x = states e.rows e.goal := by
    unfold statesOf
    rw [he]
  rw [hst] at q
  exact q q2 H2 s2 d2
/-! ### the shelf is made -/
def spShInit (c : Cs) : Sp := fun vs H Q _ => ∃ (x dx : Addr) (lim : Nat), vs = [.ref x, .int lim] ∧ 1 ≤ lim ∧ lim ≤ 20 ∧ H x = some (.ins c.Shelf dx []) ∧
  ∀ H' d p f h, Kp (fun b => b = x) H H' → ShlF c H' x dx d p f h false lim → H d = none → H p = none → H f = none → H h = none → p ≠ f → H' d = some (.dK []) → H' p = some (.lst []) → H' f = some (.lst []) → H' h = some (.dK []) → Q .non H'
theorem sc_Shelf___init__ : FnScope ["self", "limit"] ["self", "limit"] (defScope s_Shelf___init__) := ⟨rfl, rfl, rfl, by decide +kernel, rfl, by decide +kernel, by decide +kernel⟩
theorem ok_Shelf (T : Txt w K mg c) : ∃ (f : Addr) (fd : FuncData) (g : List Value → List Value → List Value), Mk K c.Shelf f ∧ FnOk P w K mg base CX0 3 f fd ["self", "limit"] (spShInit c) ∧ KBn K fd ["self", "limit"] (0 + 1) ["limit"] g (fun vs zs => vs ++ zs) := by
  obtain ⟨f, fd, M, F⟩ := T.mk_Shelf.ex
  obtain ⟨mv, kb⟩ := F.kbinds0 (ps := ["self", "limit"]) 1 ["limit"] [] (fun us _ ws => us ++ ws) (by simp) (fun q h => (List.not_mem_nil h).elim) (fun r1 _ r3 => r1.append r3)
    (fun D doc pm an cdv ct us mv ws h1 h2 h3 => match us, mv, ws, h1, h2, h3 with | [_], [], [_], _, _, _ => rfl)
  refine ⟨f, fd, _, M, F.ok sc_Shelf___init__ (fun vs H Q E ⟨_, _, _, e, _⟩ => by rw [e]; rfl) (fun cdv A outer s H vs Q E hr h => ?_), kb⟩
  obtain ⟨x, dx, lim, rfl, l1, l2, hx, q⟩ := h
  refine ⟨_, PSs.nox (pss_cons (ps_fld (pv 0) pe_dnewK rfl)
      (pss_cons (ps_fld (pv 0) (pe_lst pa_nil) rfl)
      (pss_cons (ps_fld (pv 0) (pe_lst pa_nil) rfl)
      (pss_cons (ps_fld (pv 0) pe_dnewK rfl)
      (pss_cons (ps_fld (pv 0) pe_bl rfl)
      (pss_cons (ps_fld (pv 0) pe_int rfl)
      (pss_cons (ps_expr (mcall (ok_Shelf_need_limit T) hr (by decide) pass0 (pv 0) (pa_cons (pv 1) pa_nil)))
      (pss_one (ps_fld (pv 0) (pv 1) rfl))))))))), ?_⟩
  intro d nd
  have xd : x ≠ d := ne_of_none hx nd
  refine ⟨_, rfl, x, _, dx, _, rfl, (by rw [upd_ne xd]; exact hx), T.c_Shelf.cl, T.f_Shelf_content, (by show 0 < 1000; decide), ?_⟩
  have k1 : Kp (fun b => b = x) H (upd (upd H d (.dK [])) x (.ins c.Shelf dx [("content", .ref d)])) := (Kp.ofSame (same_new nd)).trans kp_at
  have x1 : upd (upd H d (.dK [])) x (.ins c.Shelf dx [("content", .ref d)]) x = some (.ins c.Shelf dx [("content", .ref d)]) := upd_same
  have d1 : upd (upd H d (.dK [])) x (.ins c.Shelf dx [("content", .ref d)]) d = some (.dK []) := by rw [upd_ne (Ne.symm xd), upd_same]
  rw [show putF ("content" : Str) (V.ref d) [] = ([("content", .ref d)] : List (Str × V)) from rfl]
  generalize upd (upd H d (.dK [])) x (.ins c.Shelf dx [("content", .ref d)]) = H1 at k1 x1 d1 ⊢
  refine ⟨Nat.zero_le _, fun p np => ?_⟩
  have xp : x ≠ p := ne_of_none x1 np
  refine ⟨_, rfl, x, _, dx, _, rfl, (by rw [upd_ne xp]; exact x1), T.c_Shelf.cl, T.f_Shelf_past, (by show 1 < 1000; decide), ?_⟩
  rw [show putF ("past" : Str) (V.ref p) [("content", .ref d)] = ([("content", .ref d), ("past", .ref p)] : List (Str × V)) from rfl]
  have k2 : Kp (fun b => b = x) H1 (upd (upd H1 p (.lst [])) x (.ins c.Shelf dx [("content", .ref d), ("past", .ref p)])) := (Kp.ofSame (same_new np)).trans kp_at
  have x2 : upd (upd H1 p (.lst [])) x (.ins c.Shelf dx [("content", .ref d), ("past", .ref p)]) x = some (.ins c.Shelf dx [("content", .ref d), ("past", .ref p)]) := upd_same
  have p2 : upd (upd H1 p (.lst [])) x (.ins c.Shelf dx [("content", .ref d), ("past", .ref p)]) p = some (.lst []) := by rw [upd_ne (Ne.symm xp), upd_same]
  generalize upd (upd H1 p (.lst [])) x (.ins c.Shelf dx [("content", .ref d), ("past", .ref p)]) = H2 at k2 x2 p2 ⊢
  refine ⟨Nat.zero_le _, fun f2 nf => ?_⟩
  have xf : x ≠ f2 := ne_of_none x2 nf
  refine ⟨_, rfl, x, _, dx, _, rfl, (by rw [upd_ne xf]; exact x2), T.c_Shelf.cl, T.f_Shelf_future, (by show 2 < 1000; decide), ?_⟩
  rw [show putF ("future" : Str) (V.ref f2) [("content", .ref d), ("past", .ref p)] = ([("content", .ref d), ("past", .ref p), ("future", .ref f2)] : List (Str × V)) from rfl]
  have k3 : Kp (fun b => b = x) H2 (upd (upd H2 f2 (.lst [])) x (.ins c.Shelf dx [("content", .ref d), ("past", .ref p), ("future", .ref f2)])) := (Kp.ofSame (same_new nf)).trans kp_at
  have x3 : upd (upd H2 f2 (.lst [])) x (.ins c.Shelf dx [("content", .ref d), ("past", .ref p), ("future", .ref f2)]) x = some (.ins c.Shelf dx [("content", .ref d), ("past", .ref p), ("future", .ref f2)]) := upd_same
  have f3 : upd (upd H2 f2 (.lst [])) x (.ins c.Shelf dx [("content", .ref d), ("past", .ref p), ("future", .ref f2)]) f2 = some (.lst []) := by rw [upd_ne (Ne.symm xf), upd_same]
  generalize upd (upd H2 f2 (.lst [])) x (.ins c.Shelf dx [("content", .ref d), ("past", .ref p), ("future", .ref f2)]) = H3 at k3 x3 f3 ⊢
  intro h2 nh
  have xh : x ≠ h2 := ne_of_none x3 nh
  refine ⟨_, rfl, x, _, dx, _, rfl, (by rw [upd_ne xh]; exact x3), T.c_Shelf.cl, T.f_Shelf_held, (by show 3 < 1000; decide), ?_⟩
  have k4 : Kp (fun b => b = x) H3 (upd H3 h2 (.dK [])) := Kp.ofSame (same_new nh)
  have h4 : upd H3 h2 (.dK []) h2 = some (.dK []) := upd_same
  generalize upd H3 h2 (.dK []) = H4 at k4 h4 ⊢
  refine ⟨_, rfl, x, _, dx, _, rfl, upd_same, T.c_Shelf.cl, T.f_Shelf_working, (by show 4 < 1000; decide), ?_⟩
  refine ⟨_, rfl, x, _, dx, _, rfl, upd_same, T.c_Shelf.cl, T.f_Shelf_reckoned, (by show 5 < 1000; decide), ?_⟩
  rw [upd_upd, upd_upd]
  have kA : Kp (fun b => b = x) H H4 := ((k1.trans k2).trans k3).trans k4
  have d4 : H4 d = some (.dK []) := ((k2.trans k3).trans k4).at_ _ _ (Ne.symm xd) d1
  have p4 : H4 p = some (.lst []) := (k3.trans k4).at_ _ _ (Ne.symm xp) p2
  have f4 : H4 f2 = some (.lst []) := k4.at_ _ _ (Ne.symm xf) f3
  refine ⟨_, rfl, x, dx, _, rfl, upd_same, rfl, _, rfl, x, dx, d, _, lim, rfl, upd_same, rfl, by rw [upd_ne (Ne.symm xd)]; exact d4, l1, l2, ?_⟩
  refine ⟨_, rfl, _, rfl, x, _, dx, _, rfl, upd_same, T.c_Shelf.cl, T.f_Shelf_own_limit, (by show 6 < 1000; decide), ?_⟩
  rw [upd_upd]
  refine q _ d p f2 h2 (kA.trans kp_at) upd_same nd (k1.fresh np) ((k1.trans k2).fresh nf) (((k1.trans k2).trans k3).fresh nh) (ne_of_none p2 nf) ?_ ?_ ?_ ?_
  · rw [upd_ne (Ne.symm xd)]
    exact d4
  · rw [upd_ne (Ne.symm xp)]
    exact p4
  · rw [upd_ne (Ne.symm xf)]
    exact f4
  · rw [upd_ne (Ne.symm xh)]
    exact h4
end
end AG
namespace AG
open PySem PySem.Spec PyProof.Rows L2
section
variable {P : Program} {w : World} {K : PySem.W.Frag} {mg : Str → Option Value} {base : Heap} {c : Cs}
/-! ### go_to: nothing is held -/
def spGoTo (c : Cs) : Sp := fun vs H Q _ => ∃ (S dx d p f h e : Addr) (b : Bool) (lim : Nat), vs = [.ref S, .ref e] ∧ ShlF c H S dx d p f h b lim ∧ H h = some (.dK []) ∧
  ∀ H' h', Kp (fun b => b = S) H H' → ShlF c H' S dx e p f h' b lim → H h' = none → H' h' = some (.dK []) → Q .non H'
theorem sc_Shelf_go_to : FnScope ["self", "late", "before", "name", "kept"] ["self", "late"] (defScope s_Shelf_go_to) := ⟨rfl, rfl, rfl, by decide +kernel, rfl, by decide +kernel, by decide +kernel⟩
theorem ok_Shelf_go_to (T : Txt w K mg c) : MDef P w K mg base CX0 c.Shelf "go_to" ["self", "late"] 1 (spGoTo c) := by
  refine T.m_Shelf_go_to.def_ T.c_Shelf.cl sc_Shelf_go_to (fun vs H Q E ⟨_, _, _, _, _, _, _, _, _, e, _⟩ => by rw [e]; rfl) (fun _ _ _ _ _ _ us hl => match us, hl with | [_, _], _ => rfl) fun f cdv A outer s H vs Q E hr h => ?_
  obtain ⟨S, dx, d, p, f2, h2, e, b, lim, rfl, hS, hh, q⟩ := h
  refine ⟨_, PSs.nox (pss_cons (ps_set (i := 2) sc_Shelf_go_to.nd rfl (Or.inr rfl) (pe_fld (pv 0) rfl))
      (pss_cons (ps_lock (ps_setLc (i := 4) (own := [("name", 3)]) rfl sc_Shelf_go_to.nd rfl rfl (sw_true rfl rfl rfl (by decide +kernel)) (pi_keys (pe_fld (pv 0) rfl)) (blkOk_by (N := ["self", "late", "before", "name", "kept"]) (sc := (defScope s_Shelf_go_to)) (by decide +kernel)) (fun _ _ _ _ _ => (pg_name (i := 3) sc_Shelf_go_to.nd rfl (Or.inl rfl))) (fun _ _ _ _ _ => pts_one pt_no) (fun _ _ _ _ _ => pe_no)))
      (pss_cons (ps_fld (pv 0) (pe_dc (own := [("name", 3)]) rfl sc_Shelf_go_to.nd (pi_list (pv 4)) (blkOk_by (N := ["self", "late", "before", "name", "kept"]) (sc := (defScope s_Shelf_go_to)) (by decide +kernel)) (fun _ _ _ _ _ => (pg_name (i := 3) sc_Shelf_go_to.nd rfl (Or.inl rfl))) (fun _ _ _ _ _ => pts_nil) (fun _ _ _ _ _ => pe_no) (fun _ _ _ _ _ => pe_no)) rfl)
      (pss_one (ps_fld (pv 0) (pv 1) rfl))))), ?_⟩
  refine ⟨_, rfl, S, _, dx, _, _, rfl, hS, T.c_Shelf.cl, T.f_Shelf_content, rfl, h2, _, hh, trivial, fun od => ?_⟩
  have nSh : S ≠ h2 := fun z => by
    have hS2 : H S = _ := hS
    rw [z, hh] at hS2
    cases hS2
  have hL : upd H h2 (.frz od (.dK [])) h2 = some (.frz od (.dK [])) := upd_same
  have hSL : ShlF c (upd H h2 (.frz od (.dK []))) S dx d p f2 h2 b lim := by
    unfold ShlF
    rw [upd_ne nSh]
    exact hS
  have kL : Kp (fun b => b = h2) H (upd H h2 (.frz od (.dK []))) := kp_at
  generalize upd H h2 (.frz od (.dK [])) = HL at hL hSL kL ⊢
  refine ⟨_, rfl, S, _, dx, _, _, rfl, hSL, T.c_Shelf.cl, T.f_Shelf_held, rfl, h2, od, rfl, .inl ⟨[], hL, fun D hD => ?_⟩⟩
  have nDh : h2 ≠ D := ne_of_none hL hD
  have nSD : S ≠ D := ne_of_none hSL hD
  have hLD : upd HL D (.lst []) h2 = some (.frz od (.dK [])) := by
    rw [upd_ne nDh]
    exact hL
  refine ⟨fun i m H1 => i = 0 ∧ H1 = upd HL D (.lst []), ⟨0, rfl, rfl⟩, fun i m H1 ⟨ei, eH⟩ => .inl ⟨?_, ?_⟩⟩
  · subst ei eH
    exact (walk_keys (o := od) (d := h2) (kvs := [])).stops _ hLD
  · subst ei eH
    refine ⟨hLD, ?_⟩
    have s0 : Same H (upd (upd HL D (.lst [])) h2 (.dK [])) := fun b o eb => by
      by_cases z : b = h2
      · rw [z, upd_same, ← hh, ← z]
        exact eb
      · have nb : b ≠ D := ne_of_none (kL.at_ b o z eb) hD
        rw [upd_ne z, upd_ne nb]
        exact kL.at_ b o z eb
    have hD2 : upd (upd HL D (.lst [])) h2 (.dK []) D = some (.lst []) := by rw [upd_ne (Ne.symm nDh), upd_same]
    generalize upd (upd HL D (.lst [])) h2 (.dK []) = H2 at s0 hD2 ⊢
    refine ⟨_, rfl, D, rfl, ⟨_, SqL.of hD2⟩, fun F hF => ?_⟩
    have nDF : D ≠ F := ne_of_none hD2 hF
    have hDF : upd H2 F (.dK []) D = some (.lst []) := by
      rw [upd_ne nDF]
      exact hD2
    refine ⟨fun i m H1 => i = 0 ∧ H1 = upd H2 F (.dK []), ⟨0, rfl, rfl⟩, fun i m H1 ⟨ei, eH⟩ => .inl ⟨?_, ?_⟩⟩
    · subst ei eH
      exact (walk_list (xs := [])).stops _ (SqL.of hDF)
    · subst ei eH
      have hF0 : H F = none := s0.free hF
      have hS2 : ShlF c H2 S dx d p f2 h2 b lim := s0 _ _ hS
      have nSF : S ≠ F := ne_of_none hS2 hF
      refine ⟨_, rfl, S, _, dx, _, rfl, (by rw [upd_ne nSF]; exact hS2), T.c_Shelf.cl, T.f_Shelf_held, (by show 7 < 1000; decide), ?_⟩
      refine ⟨_, rfl, _, rfl, S, _, dx, _, rfl, upd_same, T.c_Shelf.cl, T.f_Shelf_content, (by show 7 < 1000; decide), ?_⟩
      rw [upd_upd]
      exact q _ F ((Kp.ofSame (s0.trans (same_new hF))).trans kp_at) upd_same hF0 (by rw [upd_ne (Ne.symm nSF)]; exact upd_same)
theorem Conts.snoc {Mu : Mut1} {H : Hp} {d : Addr} {es : List Ent} (h : Cont c Mu H d es) : ∀ {vs : List V} {l : List (List Ent)}, Conts c Mu H vs l → Conts c Mu H (vs ++ [.ref d]) (l ++ [es])
  | _, _, .nil => .cons ⟨d, rfl, h⟩ .nil
  | _, _, .cons a r => .cons a (Conts.snoc h r)
theorem Conts.last {Mu : Mut1} {H : Hp} : ∀ {vs : List V} {l : List (List Ent)} {es : List Ent}, Conts c Mu H vs (l ++ [es]) → ∃ ws d, vs = ws ++ [.ref d] ∧ Conts c Mu H ws l ∧ Cont c Mu H d es
  | _, [], _, .cons ⟨d, e, h⟩ .nil => ⟨[], d, by rw [e]; rfl, .nil, h⟩
  | _, _ :: l, _, .cons a r => by
    obtain ⟨ws, d, e, h1, h2⟩ := Conts.last (l := l) r
    exact ⟨_ :: ws, d, by rw [e]; rfl, .cons a h1, h2⟩
theorem Conts.nil_ {Mu : Mut1} {H : Hp} {vs : List V} (h : Conts c Mu H vs []) : vs = [] := by
  cases h
  rfl
theorem Shl.same {Mu : Mut1} {H H' : Hp} {S : Addr} {lim : Nat} {st : Sta} (wl : Wl Mu H) (s : Same H H') (h : Shl c Mu H S lim st) : Shl c Mu H' S lim st := by
  obtain ⟨dx, d, p, f2, h2, ps, fs, hS, mS, mp, mf, ne, hp, hf, hh, mh, hc, hP, hF⟩ := h
  have t : Tr Mu H Mu H' := .ofSame wl s
  exact ⟨dx, d, p, f2, h2, ps, fs, s _ _ hS, mS, mp, mf, ne, s _ _ hp, s _ _ hf, s _ _ hh, mh, hc.tr t, hP.tr t, hF.tr t⟩
/-! ### what of the shelf moves -/
/-- Ch holds what may move -/
def ShM (c : Cs) (H : Hp) (S : Addr) (Ch : Mut1) : Prop := ∃ dx d p f h b lim, ShlF c H S dx d p f h b lim ∧ Ch S ∧ Ch p ∧ Ch f
def Mov (c : Cs) (S : Addr) (H H' : Hp) : Prop := ∀ Ch, Wl Ch H → ShM c H S Ch → ∃ Cv, Tr Ch H Cv H' ∧ ShM c H' S Cv
theorem ShlF.inj {H : Hp} {S dx d p f h dx2 d2 p2 f2 h2 : Addr} {b b2 : Bool} {lim lim2 : Nat} (a : ShlF c H S dx d p f h b lim) (e : ShlF c H S dx2 d2 p2 f2 h2 b2 lim2) : p2 = p ∧ f2 = f := by
  unfold ShlF at a e
  cases a.symm.trans e
  exact ⟨rfl, rfl⟩
theorem Mov.same {H H' : Hp} {S : Addr} (s : Same H H') : Mov c S H H' := fun Ch wl ⟨dx, d, p, f, h, b, lim, hS, m⟩ => ⟨Ch, .ofSame wl s, dx, d, p, f, h, b, lim, s _ _ hS, m⟩
theorem Mov.of {H H' : Hp} {S dx d p f h dx2 d2 h2 : Addr} {b b2 : Bool} {lim lim2 : Nat} (hS : ShlF c H S dx d p f h b lim) (k : Kp (fun b => b = S ∨ b = p ∨ b = f) H H') (hS2 : ShlF c H' S dx2 d2 p f h2 b2 lim2) : Mov c S H H' := fun Ch wl ⟨_, _, p1, f1, _, _, _, h1, mS, mp, mf⟩ => by
  obtain ⟨e1, e2⟩ := hS.inj h1
  subst e1 e2
  exact ⟨Ch, .ofKp wl (k.wide fun b e => e.elim (fun z => z ▸ mS) fun e => e.elim (fun z => z ▸ mp) fun z => z ▸ mf), dx2, d2, _, _, h2, b2, lim2, hS2, mS, mp, mf⟩
theorem Mov.of2 {H H' : Hp} {S dx d p f h dx2 d2 h2 f2 : Addr} {b b2 : Bool} {lim lim2 : Nat} (hS : ShlF c H S dx d p f h b lim) (k : Kp (fun b => b = S ∨ b = p ∨ b = f) H H') (n : H f2 = none) (n2 : H' f2 ≠ none) (hS2 : ShlF c H' S dx2 d2 p f2 h2 b2 lim2) : Mov c S H H' := fun Ch wl ⟨_, _, p1, f1, _, _, _, h1, mS, mp, mf⟩ => by
  obtain ⟨e1, e2⟩ := hS.inj h1
  subst e1 e2
  exact ⟨wi Ch f2, .add wl (k.wide fun b e => e.elim (fun z => z ▸ mS) fun e => e.elim (fun z => z ▸ mp) fun z => z ▸ mf) n n2, dx2, d2, _, f2, h2, b2, lim2, hS2, .inl mS, .inl mp, .inr rfl⟩
/-! ### undo, redo -/
def undone (st : Sta) : Option Sta := match st.past.getLast? with
  | none => none
  | some es => some ⟨es, st.past.dropLast, st.fut ++ [st.con]⟩
def redone (st : Sta) : Option Sta := match st.fut.getLast? with
  | none => none
  | some es => some ⟨es, st.past ++ [st.con], st.fut.dropLast⟩
/-- a step's end -/
def EndS (c : Cs) (Mu : Mut1) (S : Addr) (lim : Nat) (st0 : Sta) (r : Er ⊕ Sta) (H : Hp) (Q : VK) (E : XK) : Prop := match r with
  | .inl e => ∀ d H', Tr Mu H Mu H' → Mov c S H H' → Shl c Mu H' S lim st0 → H' d = some (.xd e.flds) → E (.ref (e.cls c)) (some d) H'
  | .inr st => ∀ Mv H', Tr Mu H Mv H' → Mov c S H H' → Shl c Mv H' S lim st → Q .non H'
def orNothing : Option Sta → Er ⊕ Sta
  | none => .inl .nothing
  | some st => .inr st
def spStep (c : Cs) (G : Sta → Option Sta) : Sp := fun vs H Q E => ∃ (Mu : Mut1) (S : Addr) (lim : Nat) (st : Sta), vs = [.ref S] ∧ Wl Mu H ∧ Shl c Mu H S lim st ∧ st.past.length ≤ 1000 ∧ st.fut.length ≤ 1000 ∧ EndS c Mu S lim st (orNothing (G st)) H Q E
theorem sc_Shelf_undo : FnScope ["self"] ["self"] (defScope s_Shelf_undo) := ⟨rfl, rfl, rfl, by decide +kernel, rfl, by decide +kernel, by decide +kernel⟩
theorem ok_Shelf_undo (T : Txt w K mg c) (R : Exs P K mg c) : MDef P w K mg base (L2.CX P w) c.Shelf "undo" ["self"] 3 (spStep c undone) := by
  refine T.m_Shelf_undo.def_ T.c_Shelf.cl sc_Shelf_undo (fun vs H Q E ⟨_, _, _, _, e, _⟩ => by rw [e]; rfl) (fun _ _ _ _ _ _ us hl => match us, hl with | [_], _ => rfl) fun f cdv A outer s H vs Q E hr h => ?_
  obtain ⟨Mu, S, lim, st, rfl, wl, sh, lp, lf, q⟩ := h
  have sh0 := sh
  obtain ⟨dx, d, p, f2, h2, ps, fs, hS, mS, mp, mf, ne, hp, hf, hh, mh, hc, hP, hF⟩ := sh
  refine ⟨_, (pss_cons (ps_if (pt_cmpR (op_eqNil hr.units0) (pe_fld (pv 0) rfl) (pe_lst pa_nil) (nomark _)) (pss_one (ps_raiseX0 rfl R.nothing hr (takes_of rfl rfl rfl rfl))) pss_nil)
      (pss_cons (ps_expr (pe_bm PySem.F.plainAttrs_list PySem.F.slot_list_append PySem.F.type_list_append mt_append (pe_fld (pv 0) rfl) (pa_cons (pe_fld (pv 0) rfl) pa_nil)))
      (pss_one (ps_expr (mcall (ok_Shelf_go_to T) hr (by decide) pass0 (pv 0) (pa_cons (pe_bm0 PySem.F.plainAttrs_list PySem.F.slot_list_pop PySem.F.type_list_pop mt_pop (pe_fld (pv 0) rfl)) pa_nil)))))), ?_⟩
  refine ⟨_, rfl, S, _, dx, _, _, rfl, hS, T.c_Shelf.cl, T.f_Shelf_past, rfl, Nat.zero_le _, fun t nt => ?_⟩
  have s1 := same_new (o := .lst []) nt
  refine ⟨p, t, ps, rfl, rfl, s1 _ _ hp, upd_same, ?_⟩
  generalize upd H t (.lst []) = H1 at s1 ⊢
  rcases List.eq_nil_or_concat st.past with e0 | ⟨l, es, e0⟩
  · rw [e0] at hP
    obtain rfl := hP.nil_
    have eq : undone st = none := by
      unfold undone
      rw [e0]
      rfl
    rw [eq] at q
    exact ⟨_, rfl, iteT ⟨rfl, fun d1 n1 => q d1 _ (.ofSame wl (s1.trans (same_new n1))) (.same (s1.trans (same_new n1))) (sh0.same wl (s1.trans (same_new n1))) upd_same⟩⟩
  · rw [List.concat_eq_append] at e0
    rw [e0] at hP
    obtain ⟨ws, dl, rfl, hP2, hC2⟩ := hP.last
    have eq : undone st = some ⟨es, l, st.fut ++ [st.con]⟩ := by
      unfold undone
      rw [e0, List.getLast?_concat, List.dropLast_concat]
    rw [eq] at q
    have e1 : (ws ++ [V.ref dl]).isEmpty = false := by simp
    rw [e1]
    refine ⟨_, rfl, iteF ?_⟩
    have hS1 : ShlF c H1 S dx d p f2 h2 false lim := s1 _ _ hS
    have hf1 := s1 _ _ hf
    have hp1 := s1 _ _ hp
    have hh1 := s1 _ _ hh
    have lfs : fs.length < sizeLine := by
      rw [hF.len]
      exact Nat.lt_of_le_of_lt lf (by decide)
    have nSf : S ≠ f2 := fun z => by
      have h9 : H1 S = _ := hS1
      rw [z, hf1] at h9
      cases h9
    have nSp : S ≠ p := fun z => by
      have h9 : H1 S = _ := hS1
      rw [z, hp1] at h9
      cases h9
    have nhf : h2 ≠ f2 := fun z => by
      rw [z, hf1] at hh1
      cases hh1
    have nhp : h2 ≠ p := fun z => by
      rw [z, hp1] at hh1
      cases hh1
    refine ⟨_, rfl, S, _, dx, _, _, rfl, hS1, T.c_Shelf.cl, T.f_Shelf_future, rfl, .inl ⟨rfl, _, SqL.of hf1⟩, _, rfl, S, _, dx, _, _, rfl, hS1, T.c_Shelf.cl, T.f_Shelf_content, rfl, f2, fs, _, rfl, rfl, hf1, lfs, ?_⟩
    have hS2 : ShlF c (upd H1 f2 (.lst (fs ++ [.ref d]))) S dx d p f2 h2 false lim := by
      unfold ShlF
      rw [upd_ne nSf]
      exact hS1
    have hp2 : upd H1 f2 (.lst (fs ++ [.ref d])) p = some (.lst (ws ++ [.ref dl])) := by
      rw [upd_ne ne]
      exact hp1
    refine ⟨_, rfl, S, dx, _, rfl, hS2, rfl, _, rfl, S, _, dx, _, _, rfl, hS2, T.c_Shelf.cl, T.f_Shelf_past, rfl, .inl ⟨rfl, _, SqL.of hp2⟩, p, ws ++ [.ref dl], .ref dl, rfl, rfl, hp2, by simp, ?_⟩
    rw [List.dropLast_concat]
    have k3 : Kp (fun b => b = S ∨ b = p ∨ b = f2) H (upd (upd H1 f2 (.lst (fs ++ [.ref d]))) p (.lst ws)) := ((Kp.ofSame s1).trans (kp_upd (.inr (.inr rfl)))).trans (kp_upd (.inr (.inl rfl)))
    have hS3 : ShlF c (upd (upd H1 f2 (.lst (fs ++ [.ref d]))) p (.lst ws)) S dx d p f2 h2 false lim := by
      unfold ShlF
      rw [upd_ne nSp]
      exact hS2
    have hh3 : upd (upd H1 f2 (.lst (fs ++ [.ref d]))) p (.lst ws) h2 = some (.dK []) := by
      rw [upd_ne nhp, upd_ne nhf]
      exact hh1
    have hp3 : upd (upd H1 f2 (.lst (fs ++ [.ref d]))) p (.lst ws) p = some (.lst ws) := upd_same
    have hf3 : upd (upd H1 f2 (.lst (fs ++ [.ref d]))) p (.lst ws) f2 = some (.lst (fs ++ [.ref d])) := by rw [upd_ne (Ne.symm ne), upd_same]
    generalize upd (upd H1 f2 (.lst (fs ++ [.ref d]))) p (.lst ws) = H3 at k3 hS3 hh3 hp3 hf3 ⊢
    refine ⟨S, dx, d, p, f2, h2, dl, false, lim, rfl, hS3, hh3, fun H4 h4 k4 hS4 nh4 hh4 => ?_⟩
    have k5s := k3.trans (k4.wide fun b e => .inl e)
    have k5 : Kp Mu H H4 := k5s.wide fun b e => e.elim (fun z => z ▸ mS) fun e => e.elim (fun z => z ▸ mp) fun z => z ▸ mf
    have t5 : Tr Mu H Mu H4 := .ofKp wl k5
    have nh0 : H h4 = none := k3.fresh nh4
    refine q Mu H4 t5 (.of hS k5s hS4) ⟨dx, dl, p, f2, h4, ws, fs ++ [.ref d], hS4, mS, mp, mf, ne, k4.at_ _ _ (Ne.symm nSp) hp3, k4.at_ _ _ (Ne.symm nSf) hf3, hh4, wl.new nh0, hC2.tr t5, hP2.tr t5, (hF.tr t5).snoc (hc.tr t5)⟩
theorem sc_Shelf_redo : FnScope ["self"] ["self"] (defScope s_Shelf_redo) := ⟨rfl, rfl, rfl, by decide +kernel, rfl, by decide +kernel, by decide +kernel⟩
theorem ok_Shelf_redo (T : Txt w K mg c) (R : Exs P K mg c) : MDef P w K mg base (L2.CX P w) c.Shelf "redo" ["self"] 3 (spStep c redone) := by
  refine T.m_Shelf_redo.def_ T.c_Shelf.cl sc_Shelf_redo (fun vs H Q E ⟨_, _, _, _, e, _⟩ => by rw [e]; rfl) (fun _ _ _ _ _ _ us hl => match us, hl with | [_], _ => rfl) fun f cdv A outer s H vs Q E hr h => ?_
  obtain ⟨Mu, S, lim, st, rfl, wl, sh, lf, lp, q⟩ := h
  have sh0 := sh
  obtain ⟨dx, d, f2, p, h2, fs, ps, hS, mS, mf, mp, ne0, hf, hp, hh, mh, hc, hF, hP⟩ := sh
  refine ⟨_, (pss_cons (ps_if (pt_cmpR (op_eqNil hr.units0) (pe_fld (pv 0) rfl) (pe_lst pa_nil) (nomark _)) (pss_one (ps_raiseX0 rfl R.nothing hr (takes_of rfl rfl rfl rfl))) pss_nil)
      (pss_cons (ps_expr (pe_bm PySem.F.plainAttrs_list PySem.F.slot_list_append PySem.F.type_list_append mt_append (pe_fld (pv 0) rfl) (pa_cons (pe_fld (pv 0) rfl) pa_nil)))
      (pss_one (ps_expr (mcall (ok_Shelf_go_to T) hr (by decide) pass0 (pv 0) (pa_cons (pe_bm0 PySem.F.plainAttrs_list PySem.F.slot_list_pop PySem.F.type_list_pop mt_pop (pe_fld (pv 0) rfl)) pa_nil)))))), ?_⟩
  refine ⟨_, rfl, S, _, dx, _, _, rfl, hS, T.c_Shelf.cl, T.f_Shelf_future, rfl, Nat.zero_le _, fun t nt => ?_⟩
  have ne : p ≠ f2 := Ne.symm ne0
  have s1 := same_new (o := .lst []) nt
  refine ⟨p, t, ps, rfl, rfl, s1 _ _ hp, upd_same, ?_⟩
  generalize upd H t (.lst []) = H1 at s1 ⊢
  rcases List.eq_nil_or_concat st.fut with e0 | ⟨l, es, e0⟩
  · rw [e0] at hP
    obtain rfl := hP.nil_
    have eq : redone st = none := by
      unfold redone
      rw [e0]
      rfl
    rw [eq] at q
    exact ⟨_, rfl, iteT ⟨rfl, fun d1 n1 => q d1 _ (.ofSame wl (s1.trans (same_new n1))) (.same (s1.trans (same_new n1))) (sh0.same wl (s1.trans (same_new n1))) upd_same⟩⟩
  · rw [List.concat_eq_append] at e0
    rw [e0] at hP
    obtain ⟨ws, dl, rfl, hP2, hC2⟩ := hP.last
    have eq : redone st = some ⟨es, st.past ++ [st.con], l⟩ := by
      unfold redone
      rw [e0, List.getLast?_concat, List.dropLast_concat]
    rw [eq] at q
    have e1 : (ws ++ [V.ref dl]).isEmpty = false := by simp
    rw [e1]
    refine ⟨_, rfl, iteF ?_⟩
    have hS1 : ShlF c H1 S dx d f2 p h2 false lim := s1 _ _ hS
    have hf1 := s1 _ _ hf
    have hp1 := s1 _ _ hp
    have hh1 := s1 _ _ hh
    have lfs : fs.length < sizeLine := by
      rw [hF.len]
      exact Nat.lt_of_le_of_lt lf (by decide)
    have nSf : S ≠ f2 := fun z => by
      have h9 : H1 S = _ := hS1
      rw [z, hf1] at h9
      cases h9
    have nSp : S ≠ p := fun z => by
      have h9 : H1 S = _ := hS1
      rw [z, hp1] at h9
      cases h9
    have nhf : h2 ≠ f2 := fun z => by
      rw [z, hf1] at hh1
      cases hh1
    have nhp : h2 ≠ p := fun z => by
      rw [z, hp1] at hh1
      cases hh1
    refine ⟨_, rfl, S, _, dx, _, _, rfl, hS1, T.c_Shelf.cl, T.f_Shelf_past, rfl, .inl ⟨rfl, _, SqL.of hf1⟩, _, rfl, S, _, dx, _, _, rfl, hS1, T.c_Shelf.cl, T.f_Shelf_content, rfl, f2, fs, _, rfl, rfl, hf1, lfs, ?_⟩
    have hS2 : ShlF c (upd H1 f2 (.lst (fs ++ [.ref d]))) S dx d f2 p h2 false lim := by
      unfold ShlF
      rw [upd_ne nSf]
      exact hS1
    have hp2 : upd H1 f2 (.lst (fs ++ [.ref d])) p = some (.lst (ws ++ [.ref dl])) := by
      rw [upd_ne ne]
      exact hp1
    refine ⟨_, rfl, S, dx, _, rfl, hS2, rfl, _, rfl, S, _, dx, _, _, rfl, hS2, T.c_Shelf.cl, T.f_Shelf_future, rfl, .inl ⟨rfl, _, SqL.of hp2⟩, p, ws ++ [.ref dl], .ref dl, rfl, rfl, hp2, by simp, ?_⟩
    rw [List.dropLast_concat]
    have k3 : Kp (fun b => b = S ∨ b = f2 ∨ b = p) H (upd (upd H1 f2 (.lst (fs ++ [.ref d]))) p (.lst ws)) := ((Kp.ofSame s1).trans (kp_upd (.inr (.inl rfl)))).trans (kp_upd (.inr (.inr rfl)))
    have hS3 : ShlF c (upd (upd H1 f2 (.lst (fs ++ [.ref d]))) p (.lst ws)) S dx d f2 p h2 false lim := by
      unfold ShlF
      rw [upd_ne nSp]
      exact hS2
    have hh3 : upd (upd H1 f2 (.lst (fs ++ [.ref d]))) p (.lst ws) h2 = some (.dK []) := by
      rw [upd_ne nhp, upd_ne nhf]
      exact hh1
    have hp3 : upd (upd H1 f2 (.lst (fs ++ [.ref d]))) p (.lst ws) p = some (.lst ws) := upd_same
    have hf3 : upd (upd H1 f2 (.lst (fs ++ [.ref d]))) p (.lst ws) f2 = some (.lst (fs ++ [.ref d])) := by rw [upd_ne (Ne.symm ne), upd_same]
    generalize upd (upd H1 f2 (.lst (fs ++ [.ref d]))) p (.lst ws) = H3 at k3 hS3 hh3 hp3 hf3 ⊢
    refine ⟨S, dx, d, f2, p, h2, dl, false, lim, rfl, hS3, hh3, fun H4 h4 k4 hS4 nh4 hh4 => ?_⟩
    have k5s := k3.trans (k4.wide fun b e => .inl e)
    have k5 : Kp Mu H H4 := k5s.wide fun b e => e.elim (fun z => z ▸ mS) fun e => e.elim (fun z => z ▸ mf) fun z => z ▸ mp
    have t5 : Tr Mu H Mu H4 := .ofKp wl k5
    have nh0 : H h4 = none := k3.fresh nh4
    refine q Mu H4 t5 (.of hS k5s hS4) ⟨dx, dl, f2, p, h4, fs ++ [.ref d], ws, hS4, mS, mf, mp, ne0, k4.at_ _ _ (Ne.symm nSf) hf3, k4.at_ _ _ (Ne.symm nSp) hp3, hh4, wl.new nh0, hC2.tr t5, (hF.tr t5).snoc (hc.tr t5), hP2.tr t5⟩
end
end AG
namespace AG
open PySem PySem.Spec PyProof.Rows L2
/-! ### deeds one behind the other -/
noncomputable def afters (lim : Nat) : List Ent → List Deed → Er ⊕ List Ent
  | es, [] => .inr es
  | es, dd :: r => match after es lim dd with
    | .inl e => .inl e
    | .inr l => afters lim l r
noncomputable def applied (lim : Nat) (st : Sta) (ds : List Deed) : Er ⊕ Sta := match afters lim st.con ds with
  | .inl e => .inl e
  | .inr l => .inr ⟨l, st.past ++ [st.con], []⟩
structure Fit (lim : Nat) (es : List Ent) : Prop where
  ok : ∀ e ∈ es, EntOk e
  nd : (names es).Nodup
  cl : Closed es
  le : es.length ≤ lim
theorem mem_uniq_recs {e : Ent} {y : Str} : y ∈ e.rcl ↔ y ∈ recs e.cmds := by
  unfold Ent.rcl
  exact mem_uniq
theorem lost_none {es : List Ent} {x : Str} {e : Ent} (he : ent? es x = some e) (h : lost es (rclOf es x) = none) : ∀ y ∈ recs e.cmds, has es y := fun y hy => by
  refine lost_take h y ?_
  unfold rclOf
  rw [he]
  exact mem_uniq_recs.mpr hy
theorem need_none {es : List Ent} {x : Str} (h : need es x = none) : lost es (rclOf es x) = none ∧ x ∉ rests es x := by
  unfold need at h
  split at h
  · cases h
  · rename_i hl
    refine ⟨hl, fun m => ?_⟩
    rw [if_pos m] at h
    cases h
theorem ent_map {e : Ent} : ∀ {es : List Ent}, e.name ∈ es.map Ent.name → (es.map fun f => if f.name = e.name then e else f).find? (fun f => decide (f.name = e.name)) = some e
  | [], h => absurd h List.not_mem_nil
  | f :: r, h => by
    rw [List.map_cons, List.find?_cons]
    by_cases q : f.name = e.name
    · rw [if_pos q, decide_eq_true rfl]
    · rw [if_neg q, decide_eq_false q]
      exact ent_map ((List.mem_cons.mp h).resolve_left fun z => q z.symm)
theorem ent_set {es : List Ent} {e : Ent} : ent? (setE es e) e.name = some e := by
  unfold setE ent?
  split
  · rename_i h
    exact ent_map h
  · rename_i h
    rw [List.find?_append, show es.find? (fun f => decide (f.name = e.name)) = none from ent_none h, Option.none_or, List.find?_cons, decide_eq_true rfl]
theorem after_fact {es : List Ent} {lim : Nat} {x : Str} {rs : List Row} {g : Fm} {cs : List Cm} : after es lim (.fact x rs g cs) = if ¬ has es x ∧ lim ≤ es.length then .inl (.full lim) else tryE es ⟨x, rs, g, cs⟩ := rfl
theorem after_script {es : List Ent} {lim : Nat} {x : Str} {cs : List Cm} : after es lim (.script x cs) = match ent? es x with
    | none => .inl (.unknown x)
    | some e => tryE es ⟨x, e.rows, e.goal, cs⟩ := rfl
theorem after_drop {es : List Ent} {lim : Nat} {x : Str} : after es lim (.drop x) = if has es x then (match users es x with
    | u :: _ => .inl (.inuse u)
    | [] => .inr (dropE es x)) else .inl (.unknown x) := rfl
theorem fit_try {lim : Nat} {es l : List Ent} {e : Ent} (f : Fit lim es) (oe : EntOk e) (le : has es e.name ∨ es.length < lim) (h : tryE es e = .inr l) : Fit lim l := by
  unfold tryE at h
  cases hn : need (setE es e) e.name with
  | some r =>
    rw [hn] at h
    cases h
  | none =>
    rw [hn] at h
    cases h
    refine ⟨ok_setE f.ok oe, nd_setE f.nd, fun g hg y hy => ?_, ?_⟩
    · rcases mem_setE hg with m | m
      · exact has_setE.mpr (.inl (f.cl g m y hy))
      · subst m
        exact lost_none ent_set (need_none hn).1 y hy
    · rw [len_setE]
      split
      · exact f.le
      · rename_i n
        rcases le with q | q
        · exact absurd q n
        · omega
theorem usesB_mem {x : Str} {e : Ent} (h : usesB x e = false) : x ∉ recs e.cmds := fun m => by
  unfold usesB at h
  exact of_decide_eq_false h (mem_uniq_recs.mpr m)
theorem fit_drop {lim : Nat} {es : List Ent} {x : Str} (f : Fit lim es) (hu : users es x = []) : Fit lim (dropE es x) := by
  refine ⟨fun e he => f.ok e (List.mem_filter.mp he).1, ?_, fun g hg y hy => ?_, Nat.le_trans (List.length_filter_le _ _) f.le⟩
  · exact (f.nd.sublist ((List.filter_sublist).map Ent.name))
  · have hg := (List.mem_filter.mp hg).1
    obtain ⟨k, hk, e⟩ := List.mem_map.mp (f.cl g hg y hy)
    have h0 : ((es.filter (usesB x)).map Ent.name) = [] := List.length_eq_zero_iff.mp (by
      rw [← srt_len]
      show (users es x).length = 0
      rw [hu]
      rfl)
    have h1 : es.filter (usesB x) = [] := List.map_eq_nil_iff.mp h0
    have h2 : usesB x g = false := by
      have := List.filter_eq_nil_iff.mp h1 g hg
      simpa using this
    have ne : y ≠ x := fun z => usesB_mem h2 (z ▸ hy)
    exact List.mem_map.mpr ⟨k, List.mem_filter.mpr ⟨hk, by simpa using fun z => ne (e ▸ z)⟩, e⟩
theorem fit_after {lim : Nat} {es l : List Ent} {dd : Deed} (f : Fit lim es) (dk : DeedOk dd) (h : after es lim dd = .inr l) : Fit lim l := by
  cases dd with
  | fact x rs g cs =>
    rw [after_fact] at h
    split at h
    · cases h
    · rename_i n
      refine fit_try f dk ?_ h
      by_cases hx : has es x
      · exact .inl hx
      · exact .inr (Nat.lt_of_not_le fun z => n ⟨hx, z⟩)
  | script x cs =>
    rw [after_script] at h
    cases he : ent? es x with
    | none =>
      rw [he] at h
      cases h
    | some e =>
      rw [he] at h
      have hx := ent_has he
      have oe := f.ok e hx.2.1
      exact fit_try (e := ⟨x, e.rows, e.goal, cs⟩) f ⟨dk.1, oe.ro, oe.rl, oe.go, oe.gd, dk.2.1, dk.2.2⟩ (.inl hx.1) h
  | drop x =>
    rw [after_drop] at h
    split at h
    · cases hu : users es x with
      | nil =>
        rw [hu] at h
        cases h
        exact fit_drop f hu
      | cons u r =>
        rw [hu] at h
        cases h
    · cases h
theorem fit_afters {lim : Nat} : ∀ {ds : List Deed} {es l : List Ent}, Fit lim es → (∀ dd ∈ ds, DeedOk dd) → afters lim es ds = .inr l → Fit lim l
  | [], es, l, f, _, h => by
    cases h
    exact f
  | dd :: r, es, l, f, dk, h => by
    unfold afters at h
    cases ha : after es lim dd with
    | inl e =>
      rw [ha] at h
      cases h
    | inr m =>
      rw [ha] at h
      exact fit_afters (fit_after f (dk dd List.mem_cons_self) ha) (fun d hd => dk d (List.mem_cons_of_mem _ hd)) h
theorem afters_take {lim : Nat} {m : List Ent} {dd : Deed} : ∀ {ds : List Deed} {i : Nat} {l : List Ent}, afters lim l (ds.take i) = .inr m → ds[i]? = some dd → afters lim l (ds.take (i + 1)) = (match after m lim dd with
    | .inl e => .inl e
    | .inr k => .inr k)
  | [], _, _, _, h => by simp at h
  | a :: r, 0, l, h, e => by
    obtain rfl : a = dd := Option.some.inj e
    rw [List.take_zero] at h
    obtain rfl : l = m := Sum.inr.inj h
    show (match after l lim a with | .inl e => Sum.inl e | .inr k => afters lim k []) = _
    cases after l lim a <;> rfl
  | a :: r, i + 1, l, h, e => by
    rw [List.take_succ_cons] at h ⊢
    unfold afters at h ⊢
    cases ha : after l lim a with
    | inl x =>
      rw [ha] at h
      cases h
    | inr k =>
      rw [ha] at h
      exact afters_take (ds := r) h e
theorem afters_lost {lim : Nat} {m : List Ent} {dd : Deed} {x : Er} : ∀ {ds : List Deed} {i : Nat} {l : List Ent}, afters lim l (ds.take i) = .inr m → ds[i]? = some dd → after m lim dd = .inl x → afters lim l ds = .inl x
  | [], _, _, _, h, _ => by simp at h
  | a :: r, 0, l, h, e, hx => by
    cases e
    rw [List.take_zero] at h
    obtain rfl : l = m := Sum.inr.inj h
    unfold afters
    rw [hx]
  | a :: r, i + 1, l, h, e, hx => by
    rw [List.take_succ_cons] at h
    unfold afters at h ⊢
    cases ha : after l lim a with
    | inl y =>
      rw [ha] at h
      cases h
    | inr k =>
      rw [ha] at h
      exact afters_lost (ds := r) h e hx
end AG
namespace AG
open PySem PySem.Spec PyProof.Rows L2
/-! ### methods with a star -/
structure MDefR (P : Program) (w : World) (K : PySem.W.Frag) (mg : Str → Option Value) (base : Heap) (CX : CXT) (C : Addr) (m : Str) (k : Nat) (sp : Sp) : Prop where
  cl : Cls K C
  ex : ∃ f : Addr, Meth K C m f ∧ FnR P w K mg base CX k f sp
abbrev Deeds (c : Cs) (Mu : Mut1) (H : Hp) : List V → List Deed → Prop := Paired fun v d => DeedV c Mu H v d
theorem Deeds.tr {c : Cs} {Mu Mv : Mut1} {H H' : Hp} (t : Tr Mu H Mv H') : ∀ {vs : List V} {ds : List Deed}, Deeds c Mu H vs ds → Deeds c Mv H' vs ds
  | _, _, .nil => .nil
  | _, _, .cons h r => .cons (h.tr t) (Deeds.tr t r)
theorem Deeds.at_ {c : Cs} {Mu : Mut1} {H : Hp} : ∀ {vs : List V} {ds : List Deed} {i : Nat} {v : V}, Deeds c Mu H vs ds → vs[i]? = some v → ∃ d, ds[i]? = some d ∧ DeedV c Mu H v d
  | _, _, _, _, .nil, e => by simp at e
  | _, _, 0, _, .cons h _, e => by
    cases e
    exact ⟨_, rfl, h⟩
  | _, _, i + 1, _, .cons _ r, e => Deeds.at_ (i := i) r e
theorem Deeds.len {c : Cs} {Mu : Mut1} {H : Hp} : ∀ {vs : List V} {ds : List Deed}, Deeds c Mu H vs ds → vs.length = ds.length
  | _, _, .nil => rfl
  | _, _, .cons _ r => congrArg Nat.succ (Deeds.len r)
section
variable {P : Program} {w : World} {K : PySem.W.Frag} {mg : Str → Option Value} {base : Heap} {c : Cs}
/-! ### apply -/
def spApplyB (c : Cs) : Sp := fun vs H Q E => ∃ (Mu : Mut1) (S p : Addr) (lim : Nat) (st : Sta) (rest : List V) (ds : List Deed), vs = [.ref S, .ref p] ∧ Wl Mu H ∧ ¬ Mu p ∧ H p = some (.tup rest) ∧ Deeds c Mu H rest ds ∧ (∀ d ∈ ds, DeedOk d) ∧ ds.length ≤ 3 ∧
  Shl c Mu H S lim st ∧ st.past.length ≤ 1000 ∧ Fit lim st.con ∧ lim ≤ 7 ∧ EndS c Mu S lim st (applied lim st ds) H Q E
def spApply (c : Cs) : Sp := fun vs H Q E => ∃ ws rest, vs = ws ++ rest ∧ ws.length = 1 ∧ rest.length ≤ sizeLine ∧ ∀ p, H p = none → spApplyB c (ws ++ [V.ref p]) (upd H p (.tup rest)) Q E
theorem sc_Shelf_apply : FnScope ["self", "deeds", "at", "deed", "late"] ["self", "deeds"] (defScope s_Shelf_apply) := ⟨rfl, rfl, rfl, by decide +kernel, rfl, by decide +kernel, by decide +kernel⟩
theorem ok_Shelf_apply (T : Txt w K mg c) (R : Exs P K mg c) : MDefR P w K mg base (L2.CX P w) c.Shelf "apply" 9 (spApply c) := by
  obtain ⟨f, fd, hm, F⟩ := T.m_Shelf_apply.ex
  obtain ⟨oc, od, dV, kV, doc, pm, an, cdv, ct, osl, rfl, lk, hcd, hD, hK⟩ := F.ex
  obtain rfl : dV = .none := by
    rcases hD with ⟨_, z⟩ | ⟨z, _⟩
    · exact z
    · exact absurd rfl z
  refine ⟨T.c_Shelf.cl, f, hm, StX.fn_star (ps := ["self"]) (pv := "deeds") (N := ["self", "deeds", "at", "deed", "late"]) (sp := spApplyB c) lk hcd sc_Shelf_apply StX.cxUp (StX.bind_star1 (B := fun us => bindArgs (PySem.W.fnOf "apply" "Shelf.apply" (defArgs s_Shelf_apply) (defBody s_Shelf_apply) (defScope s_Shelf_apply) .none kV doc pm an cdv ct) ⟨us, []⟩) (p1 := "self") (pv := "deeds") (fun a => rfl) fun a r rs => rfl) fun A outer s H vs Q E hr h => ?_⟩
  obtain ⟨Mu, S, p, lim, st, rest, ds, rfl, wl, mp0, hp0, dv, dk, dl, sh, lp, fit, ll, q⟩ := h
  refine ⟨_, (pss_cons (ps_for (passes_of rfl) rfl (piEnumT T.n_enumerate (pa_cons (pv 1) pa_nil)) (pg_tup rfl (pgs_cons (pg_name (i := 2) sc_Shelf_apply.nd rfl (Or.inl rfl)) (pgs_cons (pg_name (i := 3) sc_Shelf_apply.nd rfl (Or.inl rfl)) pgs_nil))) (pss_one (ps_if (pt_not (pt_val (dcall (ok_is_deed T) hr (by decide) pass0 (pa_cons (pv 3) pa_nil)))) (pss_one ps_never) pss_nil)))
      (pss_cons (ps_set (i := 4) sc_Shelf_apply.nd rfl (Or.inl rfl) (pe_fld (pv 0) rfl))
      (pss_cons (ps_with (Wout := fun cls d _ H => E cls d H) (tb := fun W => tFor (iTup K (tVar 1)) (gName 3) (tAsg (tCall (spBehind c) [] (fun cls d H => ∀ σ, W cls d σ H) (tCons (tVar 4) (tCons (tVar 3) (tCons (tFld K (tVar 0) "own_limit") tNil)))) (gName 4))) rfl rfl rfl (takes_of rfl rfl rfl rfl) hr (by decide) (ok_Changing___enter__ T) (ok_Changing___exit__ T) (hot_Changing___exit__ T) (kcall (ok_Changing T) hr (by decide) pass0 (pa_cons (pv 0) pa_nil)) fun W pn xe tk pas => pss_one (ps_for pas rfl (pi_tup (pv 1)) (pg_name (i := 3) sc_Shelf_apply.nd rfl (Or.inl rfl)) (pss_one (ps_set (i := 4) sc_Shelf_apply.nd rfl (Or.inl rfl) (dcall (E := fun cls d H => ∀ σ, W cls d σ H) (ok_behind T R) hr (by decide) (passes_call tk (fun _ _ σ _ h => h σ)) (pa_cons (pv 4) (pa_cons (pv 3) (pa_cons (pe_fld (pv 0) rfl) pa_nil))))))))
      (pss_cons (ps_expr (pe_bm PySem.F.plainAttrs_list PySem.F.slot_list_append PySem.F.type_list_append mt_append (pe_fld (pv 0) rfl) (pa_cons (pe_fld (pv 0) rfl) pa_nil)))
      (pss_cons (ps_fld (pv 0) (pe_lst pa_nil) rfl)
      (pss_one (ps_expr (mcall (ok_Shelf_go_to T) hr (by decide) pass0 (pv 0) (pa_cons (pv 4) pa_nil))))))))), ?_⟩
  have ldl : rest.length = ds.length := dv.len
  refine ⟨_, rfl, p, rest, rfl, SqT.of hp0, ?_⟩
  refine for_it walk_enumT (fun i σ Hj => ∃ x2 x3 x4, σ = [some (V.ref S), some (V.ref p), x2, x3, x4] ∧ Same H Hj) ⟨_, _, _, rfl, .refl _⟩ (fun i σ Hj _ ⟨_, _, _, _, sj⟩ => SqT.of (sj _ _ hp0)) ?_ ?_
  · rintro i x0 σ Hj Hj' hi ⟨x2, x3, x4, rfl, sj⟩ ⟨T1, x, y, rfl, hT, rfl, hx, hy⟩
    cases hx
    obtain ⟨dd, hdd, hv⟩ := dv.at_ hy
    have s2 := sj.trans (same_new (o := .tup [V.int i, y]) hT)
    refine ⟨T1, _, rfl, SqT.of upd_same, rfl, _, _, rfl, _, _, rfl, rfl, ?_⟩
    refine ⟨_, rfl, Mu, y, dd, rfl, wl.same s2, hv.keep (.ofSame s2), dk dd (List.mem_of_getElem? hdd), fun H6 s6 => ⟨_, rfl, iteF ?_⟩⟩
    exact ⟨_, _, _, rfl, s2.trans s6⟩
  · rintro σ H1 ⟨x2, x3, x4, rfl, s1⟩
    obtain ⟨dx, d, pa, fu, he, ps, fs, hS, mS, mp, mf, ne, hpa, hfu, hhe, mhe, hc, hP, hF⟩ := sh
    have hS1 : ShlF c H1 S dx d pa fu he false lim := s1 _ _ hS
    refine ⟨_, rfl, S, _, dx, _, _, rfl, hS1, T.c_Shelf.cl, T.f_Shelf_content, rfl, ?_⟩
    refine ⟨_, rfl, fun x9 d9 n9 m9 ne9 => ⟨x9, d9, _, rfl, upd_same, rfl, ?_⟩⟩
    have sx : Same H1 (upd (upd (upd H1 d9 (.own x9)) x9 (.ins c.Changing d9 [])) x9 (.ins c.Changing d9 [("house", .ref S)])) := by
      rw [upd_upd]
      exact fun b o eb => by
        rw [upd_ne (ne_of_none eb n9), upd_ne (ne_of_none eb m9)]
        exact eb
    have hx2 : upd (upd (upd H1 d9 (.own x9)) x9 (.ins c.Changing d9 [])) x9 (.ins c.Changing d9 [("house", .ref S)]) x9 = some (.ins c.Changing d9 [("house", .ref S)]) := upd_same
    generalize upd (upd (upd H1 d9 (.own x9)) x9 (.ins c.Changing d9 [])) x9 (.ins c.Changing d9 [("house", .ref S)]) = H2 at sx hx2 ⊢
    have s2 := s1.trans sx
    have hS2 : ShlF c H2 S dx d pa fu he false lim := s2 _ _ hS
    have nxS : x9 ≠ S := fun z => ne_of_none hS1 n9 z.symm
    refine ⟨x9, d9, _, rfl, hx2, x9, d9, S, dx, _, rfl, hx2, hS2, (by show 7 < 1000; decide), ?_⟩
    have k3 : Kp (fun b => b = S) H (upd H2 S (.ins c.Shelf dx (putF "working" (.bl true) [("content", .ref d), ("past", .ref pa), ("future", .ref fu), ("held", .ref he), ("working", .bl false), ("reckoned", .int 0), ("own_limit", .int lim)]))) := (Kp.ofSame s2).trans kp_at
    have hS3 : ShlF c (upd H2 S (.ins c.Shelf dx (putF "working" (.bl true) [("content", .ref d), ("past", .ref pa), ("future", .ref fu), ("held", .ref he), ("working", .bl false), ("reckoned", .int 0), ("own_limit", .int lim)]))) S dx d pa fu he true lim := upd_same
    have hx3 : upd H2 S (.ins c.Shelf dx (putF "working" (.bl true) [("content", .ref d), ("past", .ref pa), ("future", .ref fu), ("held", .ref he), ("working", .bl false), ("reckoned", .int 0), ("own_limit", .int lim)])) x9 = some (.ins c.Changing d9 [("house", .ref S)]) := by
      rw [upd_ne nxS]
      exact hx2
    generalize upd H2 S (.ins c.Shelf dx (putF "working" (.bl true) [("content", .ref d), ("past", .ref pa), ("future", .ref fu), ("held", .ref he), ("working", .bl false), ("reckoned", .int 0), ("own_limit", .int lim)])) = H3 at k3 hS3 hx3 ⊢
    have kM : Kp Mu H H3 := k3.wide fun b e => e ▸ mS
    have t3 : Tr Mu H Mu H3 := .ofKp wl kM
    have hp3 : H3 p = some (.tup rest) := kM.at_ _ _ mp0 hp0
    refine ⟨_, rfl, p, rfl, ⟨rest, SqT.of hp3⟩, ?_⟩
    refine for_it walk_tup (fun i σ Hj => ∃ x2 x3 e m, σ = [some (V.ref S), some (V.ref p), x2, x3, some (V.ref e)] ∧ Same H3 Hj ∧ afters lim st.con (ds.take i) = .inr m ∧ Fit lim m ∧ Cont c Mu Hj e m) ⟨_, _, d, st.con, rfl, .refl _, rfl, fit, hc.tr t3⟩ (fun i σ Hj _ ⟨_, _, _, _, _, sj, _⟩ => SqT.of (sj _ _ hp3)) ?_ ?_
    · rintro i y σ Hj Hj' hi ⟨x2, x3, e, m, rfl, sj, am, fm, cm⟩ ⟨rfl, hy⟩
      obtain ⟨dd, hdd, hv⟩ := dv.at_ hy
      have tj : Tr Mu H Mu Hj' := t3.trans (.ofSame t3.wl sj)
      refine ⟨_, rfl, _, rfl, _, rfl, S, _, dx, _, _, rfl, sj _ _ hS3, T.c_Shelf.cl, T.f_Shelf_own_limit, rfl, Mu, e, m, y, dd, lim, rfl, tj.wl, cm, fm.ok, fm.nd, Nat.le_trans fm.le ll, hv.tr tj, dk dd (List.mem_of_getElem? hdd), ?_⟩
      cases ha : after m lim dd with
      | inl er =>
        intro d1 H4 s4 h4 σ1
        have ap : applied lim st ds = .inl er := by
          unfold applied
          rw [afters_lost am hdd ha]
        rw [ap] at q
        have s34 := sj.trans s4
        refine ⟨er.cls c, rfl, fun x t nx => ⟨x9, d9, S, dx, _, _, _, _, rfl, s34 _ _ hx3, s34 _ _ hS3, (by show 7 < 1000; decide), rfl, ?_⟩⟩
        have kE : Kp Mu H (upd H4 S (.ins c.Shelf dx (putF "working" (.bl false) [("content", .ref d), ("past", .ref pa), ("future", .ref fu), ("held", .ref he), ("working", .bl true), ("reckoned", .int 0), ("own_limit", .int lim)]))) := (kM.trans (.ofSame s34)).trans (kp_upd mS)
        have tE : Tr Mu H Mu _ := .ofKp wl kE
        have kS : Kp (fun b => b = S) H (upd H4 S (.ins c.Shelf dx (putF "working" (.bl false) [("content", .ref d), ("past", .ref pa), ("future", .ref fu), ("held", .ref he), ("working", .bl true), ("reckoned", .int 0), ("own_limit", .int lim)]))) := (k3.trans (.ofSame s34)).trans kp_at
        refine q d1 _ tE (.of hS (kS.wide fun b e => .inl e) upd_same) ⟨dx, d, pa, fu, he, ps, fs, upd_same, mS, mp, mf, ne, kS.at_ _ _ (fun z => ?_) hpa, kS.at_ _ _ (fun z => ?_) hfu, kS.at_ _ _ (fun z => ?_) hhe, mhe, hc.tr tE, hP.tr tE, hF.tr tE⟩ ?_
        · rw [z] at hpa
          cases hS.symm.trans hpa
        · rw [z] at hfu
          cases hS.symm.trans hfu
        · rw [z] at hhe
          cases hS.symm.trans hhe
        · rw [upd_ne (fun z => by
            rw [z] at h4
            cases (s34 _ _ hS3).symm.trans h4)]
          exact h4
      | inr l =>
        intro d4 H4 s4 n4 c4
        refine ⟨_, _, d4, l, rfl, sj.trans s4, ?_, fit_after fm (dk dd (List.mem_of_getElem? hdd)) ha, c4⟩
        rw [afters_take am hdd, ha]
    · rintro σ Hj ⟨x2, x3, e, m, rfl, sj, am, fm, cm⟩
      rw [ldl, List.take_length] at am
      have ap : applied lim st ds = .inr ⟨m, st.past ++ [st.con], []⟩ := by
        unfold applied
        rw [am]
      rw [ap] at q
      refine ⟨x9, d9, S, dx, _, _, _, _, rfl, sj _ _ hx3, sj _ _ hS3, (by show 7 < 1000; decide), ?_⟩
      have kS : Kp (fun b => b = S) H (upd Hj S (.ins c.Shelf dx (putF "working" (.bl false) [("content", .ref d), ("past", .ref pa), ("future", .ref fu), ("held", .ref he), ("working", .bl true), ("reckoned", .int 0), ("own_limit", .int lim)]))) := (k3.trans (.ofSame sj)).trans kp_at
      have hS5 : ShlF c (upd Hj S (.ins c.Shelf dx (putF "working" (.bl false) [("content", .ref d), ("past", .ref pa), ("future", .ref fu), ("held", .ref he), ("working", .bl true), ("reckoned", .int 0), ("own_limit", .int lim)]))) S dx d pa fu he false lim := upd_same
      have c5 : Cont c Mu (upd Hj S (.ins c.Shelf dx (putF "working" (.bl false) [("content", .ref d), ("past", .ref pa), ("future", .ref fu), ("held", .ref he), ("working", .bl true), ("reckoned", .int 0), ("own_limit", .int lim)]))) e m := cm.keep (kp_upd mS)
      generalize upd Hj S (.ins c.Shelf dx (putF "working" (.bl false) [("content", .ref d), ("past", .ref pa), ("future", .ref fu), ("held", .ref he), ("working", .bl true), ("reckoned", .int 0), ("own_limit", .int lim)])) = H5 at kS hS5 c5 ⊢
      have nSp : S ≠ pa := fun z => by
        rw [← z] at hpa
        cases hS.symm.trans hpa
      have nSf : S ≠ fu := fun z => by
        rw [← z] at hfu
        cases hS.symm.trans hfu
      have nSh : S ≠ he := fun z => by
        rw [← z] at hhe
        cases hS.symm.trans hhe
      have nhp : he ≠ pa := fun z => by
        rw [z, hpa] at hhe
        cases hhe
      have hpa5 : H5 pa = some (.lst ps) := kS.at_ _ _ (Ne.symm nSp) hpa
      have hhe5 : H5 he = some (.dK []) := kS.at_ _ _ (Ne.symm nSh) hhe
      have lps : ps.length < sizeLine := by
        rw [hP.len]
        exact Nat.lt_of_le_of_lt lp (by decide)
      refine ⟨_, rfl, S, _, dx, _, _, rfl, hS5, T.c_Shelf.cl, T.f_Shelf_past, rfl, .inl ⟨rfl, _, SqL.of hpa5⟩, _, rfl, S, _, dx, _, _, rfl, hS5, T.c_Shelf.cl, T.f_Shelf_content, rfl, pa, ps, _, rfl, rfl, hpa5, lps, ?_⟩
      have k6s : Kp (fun b => b = S ∨ b = pa ∨ b = fu) H (upd H5 pa (.lst (ps ++ [.ref d]))) := (kS.wide fun b e => .inl e).trans (kp_upd (.inr (.inl rfl)))
      have k6 : Kp Mu H (upd H5 pa (.lst (ps ++ [.ref d]))) := (kS.wide fun b e => e ▸ mS).trans (kp_upd mp)
      have hS6 : ShlF c (upd H5 pa (.lst (ps ++ [.ref d]))) S dx d pa fu he false lim := by
        unfold ShlF
        rw [upd_ne nSp]
        exact hS5
      have hpa6 : upd H5 pa (.lst (ps ++ [.ref d])) pa = some (.lst (ps ++ [.ref d])) := upd_same
      have hhe6 : upd H5 pa (.lst (ps ++ [.ref d])) he = some (.dK []) := by
        rw [upd_ne nhp]
        exact hhe5
      have c6 : Cont c Mu (upd H5 pa (.lst (ps ++ [.ref d]))) e m := c5.keep (kp_upd mp)
      generalize upd H5 pa (.lst (ps ++ [.ref d])) = H6 at k6 k6s hS6 hpa6 hhe6 c6 ⊢
      refine ⟨Nat.zero_le _, fun fn nf => ?_⟩
      have nSn : S ≠ fn := ne_of_none hS6 nf
      refine ⟨_, rfl, S, _, dx, _, rfl, (by rw [upd_ne nSn]; exact hS6), T.c_Shelf.cl, T.f_Shelf_future, (by show 7 < 1000; decide), ?_⟩
      have nf0 : H fn = none := k6.fresh nf
      have k7 : Kp Mu H (upd (upd H6 fn (.lst [])) S (.ins c.Shelf dx (putF "future" (.ref fn) [("content", .ref d), ("past", .ref pa), ("future", .ref fu), ("held", .ref he), ("working", .bl false), ("reckoned", .int 0), ("own_limit", .int lim)]))) := (k6.trans (.ofSame (same_new nf))).trans (kp_upd mS)
      have k67 : Kp (fun b => b = S) H6 (upd (upd H6 fn (.lst [])) S (.ins c.Shelf dx (putF "future" (.ref fn) [("content", .ref d), ("past", .ref pa), ("future", .ref fu), ("held", .ref he), ("working", .bl false), ("reckoned", .int 0), ("own_limit", .int lim)]))) := (Kp.ofSame (same_new nf)).trans kp_at
      have hS7 : ShlF c (upd (upd H6 fn (.lst [])) S (.ins c.Shelf dx (putF "future" (.ref fn) [("content", .ref d), ("past", .ref pa), ("future", .ref fu), ("held", .ref he), ("working", .bl false), ("reckoned", .int 0), ("own_limit", .int lim)]))) S dx d pa fn he false lim := upd_same
      have hfn7 : upd (upd H6 fn (.lst [])) S (.ins c.Shelf dx (putF "future" (.ref fn) [("content", .ref d), ("past", .ref pa), ("future", .ref fu), ("held", .ref he), ("working", .bl false), ("reckoned", .int 0), ("own_limit", .int lim)])) fn = some (.lst []) := by rw [upd_ne (Ne.symm nSn), upd_same]
      generalize upd (upd H6 fn (.lst [])) S (.ins c.Shelf dx (putF "future" (.ref fn) [("content", .ref d), ("past", .ref pa), ("future", .ref fu), ("held", .ref he), ("working", .bl false), ("reckoned", .int 0), ("own_limit", .int lim)])) = H7 at k7 k67 hS7 hfn7 ⊢
      have hhe7 : H7 he = some (.dK []) := k67.at_ _ _ (Ne.symm nSh) hhe6
      refine ⟨_, rfl, S, dx, _, rfl, hS7, rfl, _, rfl, S, dx, d, pa, fn, he, e, false, lim, rfl, hS7, hhe7, fun H8 h8 k8 hS8 nh8 hh8 => ?_⟩
      have k9 : Kp Mu H H8 := k7.trans (k8.wide fun b e => e ▸ mS)
      have hpa8 : H8 pa = some (.lst (ps ++ [.ref d])) := (k67.trans k8).at_ _ _ (Ne.symm nSp) hpa6
      have hfn8 : H8 fn = some (.lst []) := k8.at_ _ _ (Ne.symm nSn) hfn7
      have t9 : Tr Mu H (wi Mu fn) H8 := .add wl k9 nf0 (by
        rw [hfn8]
        exact fun z => by cases z)
      have nh0 : H h8 = none := k7.fresh nh8
      have n8f : h8 ≠ fn := fun z => by
        rw [z, hfn7] at nh8
        cases nh8
      have c8 : Cont c (wi Mu fn) H8 e m := by
        have c7 := (c6.grow (Mv := wi Mu fn) fun b m => m.imp id fun m => by rw [show b = fn from m]; exact nf)
        exact c7.keep ((k67.trans k8).wide fun b e => .inl (e ▸ mS))
      have k9s := (k6s.trans (k67.wide fun b e => .inl e)).trans (k8.wide fun b e => .inl e)
      refine q (wi Mu fn) H8 t9 (.of2 hS k9s nf0 (by rw [hfn8]; exact fun z => nomatch z) hS8) ⟨dx, e, pa, fn, h8, ps ++ [.ref d], [], hS8, .inl mS, .inl mp, .inr rfl, ?_, hpa8, hfn8, hh8, fun z => z.elim (wl.new nh0) n8f, c8, (hP.tr t9).snoc (hc.tr t9), .nil⟩
      exact fun z => ne_of_none hpa nf0 z
end
end AG
namespace AG
open PySem PySem.Spec PyProof.Rows L2
/-- two statements, what holds between them -/
theorem seq_mid {t u : TS} {D : L2.Ends} {σ : L2.St} {H : Hp} (I : L2.St → Hp → Prop) (h1 : ∀ N : L2.St → Hp → Prop, (∀ σ' H', I σ' H' → N σ' H') → t { D with nx := N } σ H) (h2 : ∀ σ' H', I σ' H' → u D σ' H') : tSeq t u D σ H := h1 (u D) h2
/-! ### the law's bag -/
structure Bag (Mu : Mut1) (H : Hp) (B : Addr) : Prop where
  mu : Mu B
  ex : ∃ (L : Addr) (cells : List Int), ∃ i b s n : Int, H B = some (.lst [.ref L, .int i, .int b, .int s, .int n]) ∧ ¬ Mu L ∧ H L = some (.lst (cells.map V.int)) ∧ 0 ≤ i ∧ 0 ≤ b ∧ 0 ≤ s ∧ s < 2147483629
section
variable {P : Program} {w : World} {K : PySem.W.Frag} {mg : Str → Option Value} {base : Heap} {c : Cs}
def spPull : Sp := fun vs H Q _ => ∃ (Mu : Mut1) (B : Addr) (m : Int), vs = [.ref B, .int m] ∧ Bag Mu H B ∧ 1 ≤ m ∧ m < 1073741824 ∧ ∀ r H', 0 ≤ r → r < m → Kp (fun b => b = B) H H' → Bag Mu H' B → Q (.int r) H'
theorem sc__law_pull : FnScope ["_law_bag_here", "_law_many", "_law_cell", "_law_digit", "_law_seed"] ["_law_bag_here", "_law_many"] (defScope s__law_pull) := ⟨rfl, rfl, rfl, by decide +kernel, rfl, by decide +kernel, by decide +kernel⟩
theorem ok__law_pull (T : Txt w K mg c) : Def P w K mg base CX0 "_law_pull" ["_law_bag_here", "_law_many"] 1 spPull := by
  refine T.d__law_pull.def_ sc__law_pull (fun vs H Q E ⟨_, _, _, e, _⟩ => by rw [e]; rfl) (fun _ _ _ _ _ _ us hl => match us, hl with | [_, _], _ => rfl) fun f cdv A outer s H vs Q E hr h => ?_
  obtain ⟨Mu, B, m, rfl, ⟨mB, L, cells, i, b, sd, n, hB, mL, hL, i0, b0, s0, s1⟩, m1, m2, q⟩ := h
  refine ⟨_, PSs.nox (pss_cons (ps_if (PW.pt (pw_and (pt_cmpR op_eqC (pe_ix ix_list (pv 0) pe_int (fun _ _ => rfl)) pe_int (nomark _)) (pw_and1 (pt_cmpR op_lt (pe_ix ix_list (pv 0) pe_int (fun _ _ => rfl)) (len1 T.n_len (pa_cons (pe_ix ix_list (pv 0) pe_int (fun _ _ => rfl)) pa_nil)) (nomark _))))) (pss_cons (ps_set (i := 2) sc__law_pull.nd rfl (Or.inl rfl) (pe_ix ix_list (pe_ix ix_list (pv 0) pe_int (fun _ _ => rfl)) (pe_ix ix_list (pv 0) pe_int (fun _ _ => rfl)) (fun _ _ => rfl)))
      (pss_cons (ps_asg (pe_op op_add (pe_ix ix_list (pv 0) pe_int (fun _ _ => rfl)) pe_int) (pg_sub (pv 0) pe_int set_list))
      (pss_one (ps_if (pt_cmpR op_ge (pv 2) (pe_op op_pow pe_int pe_int) (nomark _)) (pss_one (ps_asg (pv 2) (pg_sub (pv 0) pe_int set_list))) (pss_one (ps_asg (pe_op op_mod (pe_callTy call_int1 (by rfl) T.n_int bb_int (pa_cons (pe_op op_add (pe_op op_add (pe_op op_mul (pe_ix ix_list (pv 0) pe_int (fun _ _ => rfl)) pe_int) (pe_op op_mul (pe_op op_mod (pe_callTy call_int1 (by rfl) T.n_int bb_int (pa_cons (pv 2) pa_nil)) pe_int) pe_int)) pe_int) pa_nil)) pe_int) (pg_sub (pv 0) pe_int set_list))))))) pss_nil)
      (pss_cons (ps_if (pt_cmpR op_gt (pe_ix ix_list (pv 0) pe_int (fun _ _ => rfl)) pe_int (nomark _)) (pss_cons (ps_set (i := 3) sc__law_pull.nd rfl (Or.inl rfl) (pe_op op_mod (pe_callTy call_int1 (by rfl) T.n_int bb_int (pa_cons (pe_ix ix_list (pv 0) pe_int (fun _ _ => rfl)) pa_nil)) (pv 1)))
      (pss_cons (ps_asg (pe_op op_fdiv (pe_ix ix_list (pv 0) pe_int (fun _ _ => rfl)) (pv 1)) (pg_sub (pv 0) pe_int set_list))
      (pss_one (ps_ret (pv 3))))) pss_nil)
      (pss_cons (ps_asg (pe_op op_add (pe_ix ix_list (pv 0) pe_int (fun _ _ => rfl)) pe_int) (pg_sub (pv 0) pe_int set_list))
      (pss_cons (ps_set (i := 4) sc__law_pull.nd rfl (Or.inl rfl) (pe_ix ix_list (pv 0) pe_int (fun _ _ => rfl)))
      (pss_cons (ps_asg (pe_op op_mod (pe_callTy call_int1 (by rfl) T.n_int bb_int (pa_cons (pe_op op_add (pe_op op_add (pe_op op_add (pe_op op_mul (pe_op op_mul (pv 4) (pv 4)) pe_int) (pe_op op_mul (pv 4) pe_int)) (pe_op op_mul (pe_ix ix_list (pv 0) pe_int (fun _ _ => rfl)) pe_int)) pe_int) pa_nil)) pe_int) (pg_sub (pv 0) pe_int set_list))
      (pss_one (ps_ret (pe_op op_mod (pe_callTy call_int1 (by rfl) T.n_int bb_int (pa_cons (pe_op op_add (pe_op op_fdiv (pe_ix ix_list (pv 0) pe_int (fun _ _ => rfl)) pe_int) (pe_op op_mul (pe_op op_mod (pe_callTy call_int1 (by rfl) T.n_int bb_int (pa_cons (pe_ix ix_list (pv 0) pe_int (fun _ _ => rfl)) pa_nil)) pe_int) pe_int)) pa_nil)) (pv 1))))))))), ?_⟩
  refine seq_mid (fun σ' H' => ∃ (x2 : Option V) (i b s n : Int), σ' = [some (.ref B), some (.int m), x2, none, none] ∧ H' B = some (.lst [.ref L, .int i, .int b, .int s, .int n]) ∧ Kp (fun b => b = B) H H' ∧ 0 ≤ i ∧ 0 ≤ b ∧ 0 ≤ s ∧ s < 2147483629) (fun N hN => ?_) ?_
  · refine ⟨_, rfl, B, _, _, _, rfl, rfl, SqL.of hB, rfl, rfl, ?_, ?_⟩
    · intro zb
      refine ⟨_, rfl, iteT ?_⟩
      refine ⟨_, rfl, B, _, _, _, rfl, rfl, SqL.of hB, rfl, _, rfl, B, _, _, _, rfl, rfl, SqL.of hB, rfl, _, .inl ⟨_, SqL.of hL, rfl⟩, _, _, rfl, rfl, _, rfl, ?_⟩
      by_cases lt : i < ((cells.map V.int).length : Nat)
      · rw [decide_eq_true lt]
        obtain ⟨k, rfl⟩ := Int.eq_ofNat_of_zero_le i0
        have lk : k < (cells.map V.int).length := by omega
        obtain ⟨x, hx⟩ : ∃ x : Int, (cells.map V.int)[k]? = some (.int x) := ⟨cells[k]'(by simpa using lk), by
          rw [List.getElem?_map, List.getElem?_eq_getElem (by simpa using lk)]
          rfl⟩
        refine iteT ⟨_, rfl, B, _, _, _, rfl, rfl, SqL.of hB, rfl, _, rfl, B, _, _, _, rfl, rfl, SqL.of hB, rfl, L, _, _, _, rfl, rfl, SqL.of hL, atI_nat hx, ?_⟩
        refine ⟨_, rfl, B, _, _, _, rfl, rfl, SqL.of hB, rfl, _, _, rfl, rfl, _, rfl, B, _, _, 1, rfl, rfl, hB, rfl, ?_⟩
        have nBL : L ≠ B := fun z => mL (z ▸ mB)
        have h2B : upd H B (.lst ([V.ref L, .int (k : Int), .int b, .int sd, .int n].set 1 (.int ((k : Int) + 1)))) B = some (.lst [.ref L, .int ((k : Int) + 1), .int b, .int sd, .int n]) := upd_same
        have k2 : Kp (fun b => b = B) H (upd H B (.lst ([V.ref L, .int (k : Int), .int b, .int sd, .int n].set 1 (.int ((k : Int) + 1))))) := kp_at
        generalize upd H B (.lst ([V.ref L, .int (k : Int), .int b, .int sd, .int n].set 1 (.int ((k : Int) + 1)))) = H2 at h2B k2 ⊢
        refine ⟨_, rfl, _, _, rfl, rfl, ⟨by decide, by decide, by decide⟩, _, _, rfl, rfl, _, rfl, ?_⟩
        by_cases big : (10 : Int) ^ (18 : Int).toNat ≤ x
        · rw [decide_eq_true big]
          have x0 : 0 ≤ x := Int.le_trans (by decide) big
          refine iteT ⟨_, rfl, _, rfl, B, _, _, 2, rfl, rfl, h2B, rfl, hN _ _ ⟨_, (k : Int) + 1, x, sd, n, rfl, upd_same, k2.trans kp_at, by omega, x0, s0, s1⟩⟩
        · rw [decide_eq_false big]
          have P1 : (0 : Int) < 2147483489 := by decide
          have P2 : (0 : Int) < 2147483629 := by decide
          have mod0 : ∀ z : Int, 0 ≤ z % 2147483629 ∧ z % 2147483629 < 2147483629 := fun z => ⟨Int.emod_nonneg _ (by decide), Int.emod_lt_of_pos _ (by decide)⟩
          exact iteF ⟨_, rfl, B, _, _, _, rfl, rfl, SqL.of h2B, rfl, _, _, rfl, rfl, .inr (by decide), _, rfl, .inl ⟨_, rfl, _, _, rfl, rfl, P1, _, _, rfl, rfl, .inr (by decide), _, _, rfl, rfl, _, _, rfl, rfl, .inl ⟨_, rfl, _, _, rfl, rfl, P2, _, rfl, B, _, _, 3, rfl, rfl, h2B, rfl, hN _ _ ⟨_, (k : Int) + 1, b, _, n, rfl, upd_same, k2.trans kp_at, by omega, b0, (mod0 _).1, (mod0 _).2⟩⟩⟩⟩
      · rw [decide_eq_false lt]
        exact iteF (hN _ _ ⟨_, i, b, sd, n, rfl, hB, .refl _, i0, b0, s0, s1⟩)
    · intro zb
      exact ⟨_, rfl, iteF (iteF (hN _ _ ⟨_, i, b, sd, n, rfl, hB, .refl _, i0, b0, s0, s1⟩))⟩
  · rintro σ H1 ⟨x2, i, b, sd, n, rfl, hB, k1, i0, b0, s0, s1⟩
    have hL1 : H1 L = some (.lst (cells.map V.int)) := k1.at_ _ _ (fun z => mL (z ▸ mB)) hL
    have nBL : L ≠ B := fun z => mL (z ▸ mB)
    have bag : ∀ H2 i b sd n, H2 B = some (.lst [.ref L, .int i, .int b, .int sd, .int n]) → Kp (fun b => b = B) H1 H2 → 0 ≤ i → 0 ≤ b → 0 ≤ sd → sd < 2147483629 → Bag Mu H2 B := fun H2 i b sd n h k a1 a2 a3 a4 => ⟨mB, L, cells, i, b, sd, n, h, mL, k.at_ _ _ nBL hL1, a1, a2, a3, a4⟩
    refine ⟨_, rfl, B, _, _, _, rfl, rfl, SqL.of hB, rfl, _, _, rfl, rfl, _, rfl, ?_⟩
    by_cases big : 0 < b
    · rw [decide_eq_true big]
      refine iteT ⟨_, rfl, B, _, _, _, rfl, rfl, SqL.of hB, rfl, .inl ⟨_, rfl, _, rfl, _, _, rfl, rfl, (by omega), ?_⟩⟩
      refine ⟨_, rfl, B, _, _, _, rfl, rfl, SqL.of hB, rfl, _, rfl, _, _, rfl, rfl, ⟨by omega, m2⟩, _, rfl, B, _, _, 2, rfl, rfl, hB, rfl, ?_⟩
      refine ⟨_, rfl, q _ _ (Int.emod_nonneg _ (by omega)) (Int.emod_lt_of_pos _ (by omega)) (k1.trans kp_at) (bag _ i (b / m) sd n upd_same kp_at i0 (Int.ediv_nonneg b0 (by omega)) s0 s1)⟩
    · rw [decide_eq_false big]
      have P2 : (0 : Int) < 2147483629 := by decide
      have P3 : (0 : Int) < 7901 := by decide
      refine iteF ⟨_, rfl, B, _, _, _, rfl, rfl, SqL.of hB, rfl, _, _, rfl, rfl, _, rfl, B, _, _, 4, rfl, rfl, hB, rfl, ?_⟩
      have h2 : upd H1 B (.lst ([V.ref L, .int i, .int b, .int sd, .int n].set 4 (.int (n + 1)))) B = some (.lst [.ref L, .int i, .int b, .int sd, .int (n + 1)]) := upd_same
      have k2 : Kp (fun b => b = B) H1 (upd H1 B (.lst ([V.ref L, .int i, .int b, .int sd, .int n].set 4 (.int (n + 1))))) := kp_at
      generalize upd H1 B (.lst ([V.ref L, .int i, .int b, .int sd, .int n].set 4 (.int (n + 1)))) = H2 at h2 k2 ⊢
      refine ⟨_, rfl, B, _, _, _, rfl, rfl, SqL.of h2, rfl, ?_⟩
      refine ⟨_, rfl, _, rfl, _, _, rfl, rfl, .inr ⟨by omega, by omega⟩, _, _, rfl, rfl, .inr (by decide), _, rfl, _, _, rfl, rfl, .inr (by decide), _, _, rfl, rfl, _, rfl, B, _, _, _, rfl, rfl, SqL.of h2, rfl, _, _, rfl, rfl, .inr (by decide), _, _, rfl, rfl, _, _, rfl, rfl, .inl ⟨_, rfl, _, _, rfl, rfl, P2, _, rfl, B, _, _, 3, rfl, rfl, h2, rfl, ?_⟩⟩
      obtain ⟨sd2, esd⟩ : ∃ z : Int, z = (sd * sd * 3 + sd * 27011 + (n + 1) * 1299689 + 40507) % 2147483629 := ⟨_, rfl⟩
      have h3 : upd H2 B (.lst ([V.ref L, .int i, .int b, .int sd, .int (n + 1)].set 3 (.int ((sd * sd * 3 + sd * 27011 + (n + 1) * 1299689 + 40507) % 2147483629)))) B = some (.lst [.ref L, .int i, .int b, .int sd2, .int (n + 1)]) := by
        rw [esd]
        exact upd_same
      have k3 : Kp (fun b => b = B) H1 (upd H2 B (.lst ([V.ref L, .int i, .int b, .int sd, .int (n + 1)].set 3 (.int ((sd * sd * 3 + sd * 27011 + (n + 1) * 1299689 + 40507) % 2147483629))))) := k2.trans kp_at
      generalize upd H2 B (.lst ([V.ref L, .int i, .int b, .int sd, .int (n + 1)].set 3 (.int ((sd * sd * 3 + sd * 27011 + (n + 1) * 1299689 + 40507) % 2147483629)))) = H3 at h3 k3 ⊢
      have b3 : 0 ≤ sd2 ∧ sd2 < 2147483629 := by
        rw [esd]
        exact ⟨Int.emod_nonneg _ (by decide), Int.emod_lt_of_pos _ P2⟩
      exact ⟨_, rfl, B, _, _, _, rfl, rfl, SqL.of h3, rfl, _, _, rfl, rfl, ⟨by decide, by decide⟩, _, rfl, B, _, _, _, rfl, rfl, SqL.of h3, rfl, .inl ⟨_, rfl, _, _, rfl, rfl, P3, _, _, rfl, rfl, .inr (by decide), _, _, rfl, rfl, .inl ⟨_, rfl, _, rfl, _, _, rfl, rfl, (by omega), q _ _ (Int.emod_nonneg _ (by omega)) (Int.emod_lt_of_pos _ (by omega)) (k1.trans k3) (bag _ i b sd2 (n + 1) h3 k3 i0 b0 b3.1 b3.2)⟩⟩⟩
end
end AG
namespace AG
open PySem PySem.Spec PyProof.Rows L2
section
variable {P : Program} {w : World} {K : PySem.W.Frag} {mg : Str → Option Value} {base : Heap} {c : Cs}
theorem dats_of_ints {Mu : Mut1} {H : Hp} : ∀ xs : List Int, Dats Mu H (xs.map V.int) (xs.map PyData.int)
  | [] => .nil
  | x :: r => .cons (.int x) (dats_of_ints r)
/-! ### _law_bag -/
def spBag (K : PySem.W.Frag) : Sp := fun vs H Q _ => ∃ (a : Addr) (cells : List Int), vs = [.ref a] ∧ SqL K H a (cells.map V.int) ∧ cells.length ≤ 63 ∧ ∀ B H', Same H H' → H B = none → (∃ L, L ≠ B ∧ H L = none ∧ H' L = some (.lst (cells.map V.int)) ∧ H' B = some (.lst [.ref L, .int 0, .int 0, .int 4932, .int 0])) → Q (.ref B) H'
theorem sc__law_bag : FnScope ["_law_script"] ["_law_script"] (defScope s__law_bag) := ⟨rfl, rfl, rfl, by decide +kernel, rfl, by decide +kernel, by decide +kernel⟩
theorem ok__law_bag (T : Txt w K mg c) : Def P w K mg base CX0 "_law_bag" ["_law_script"] 1 (spBag K) := by
  refine T.d__law_bag.def_ sc__law_bag (fun vs H Q E ⟨_, _, e, _⟩ => by rw [e]; rfl) (fun _ _ _ _ _ _ us hl => match us, hl with | [_], _ => rfl) fun f cdv A outer s H vs Q E hr h => ?_
  obtain ⟨a, cells, rfl, ha, hl, q⟩ := h
  refine ⟨_, PSs.nox (pss_one (ps_ret (pe_lst (pa_cons (pe_callTy cListOf (by rfl) T.n_list bb_list (pa_cons (pe_slice sl_list (pv 0) po_none (po_some pe_int)) pa_nil)) (pa_cons pe_int (pa_cons pe_int (pa_cons pe_int (pa_cons pe_int pa_nil)))))))), ?_⟩
  refine ⟨_, rfl, _, rfl, a, _, rfl, ha, fun p np => ?_⟩
  have cut : cutV (cells.map V.int) none (some 63) = cells.map V.int := by
    unfold cutV
    have e1 : HT.sIx (cells.map V.int).length 0 none = 0 := rfl
    have e2 : HT.sIx (cells.map V.int).length (cells.map V.int).length (some 63) = (cells.map V.int).length := by
      rw [show (some (63 : Int)) = some ((63 : Nat) : Int) from rfl, HT.sIx_nat, List.length_map]
      exact Nat.min_eq_right hl
    rw [e1, e2, List.drop_zero, Nat.sub_zero, List.take_length]
  rw [cut]
  have s1 : Same H (upd H p (.lst (cells.map V.int))) := same_new np
  refine ⟨fun _ => False, .list (cells.map PyData.int), .no _, .lst (fun z => z) upd_same (dats_of_ints cells), .inl rfl, fun L H1 s2 d2 n2 => ?_⟩
  obtain ⟨_, xs, e, _, h2, r2⟩ := d2.asLst
  cases e
  have e2 := dats_ints r2
  subst e2
  refine ⟨by show 5 ≤ sizeLine; decide, fun B nB => ?_⟩
  have neLB : L ≠ B := ne_of_none h2 nB
  refine q B _ ((s1.trans s2).trans (same_new nB)) ((s1.trans s2).free nB) ⟨L, neLB, s1.free n2, ?_, upd_same⟩
  rw [upd_ne neLB]
  exact h2
/-! ### _law_any -/
def spAny : Sp := fun vs H Q _ => ∃ (Mu : Mut1) (B : Addr) (t : V), vs = [.ref B, t] ∧ Bag Mu H B ∧
  ((∃ a xs, t = .ref a ∧ a ≠ B ∧ H a = some (.lst xs) ∧ 1 ≤ xs.length ∧ xs.length ≤ 1000 ∧ ∀ x ∈ xs, ∀ H', Kp (fun b => b = B) H H' → Bag Mu H' B → Q x H') ∨
    ∃ z : Str, t = .str z ∧ 1 ≤ z.length ∧ z.length ≤ 1000 ∧ ∀ ch ∈ z.cps.toList, ∀ H', Kp (fun b => b = B) H H' → Bag Mu H' B → Q (.str ⟨#[ch]⟩) H')
theorem sc__law_any : FnScope ["_law_bag_here", "_law_things"] ["_law_bag_here", "_law_things"] (defScope s__law_any) := ⟨rfl, rfl, rfl, by decide +kernel, rfl, by decide +kernel, by decide +kernel⟩
theorem ok__law_any (T : Txt w K mg c) : Def P w K mg base CX0 "_law_any" ["_law_bag_here", "_law_things"] 2 spAny := by
  refine T.d__law_any.def_ sc__law_any (fun vs H Q E ⟨_, _, _, e, _⟩ => by rw [e]; rfl) (fun _ _ _ _ _ _ us hl => match us, hl with | [_, _], _ => rfl) fun f cdv A outer s H vs Q E hr h => ?_
  obtain ⟨Mu, B, t, rfl, bg, h⟩ := h
  refine ⟨_, PSs.nox (pss_one (ps_ret (pe_ix ix_seq (pv 1) (dcall (ok__law_pull T) hr (by decide) pass0 (pa_cons (pv 0) (pa_cons (len1 T.n_len (pa_cons (pv 1) pa_nil)) pa_nil))) (fun _ _ => rfl)))), ?_⟩
  rcases h with ⟨a, xs, rfl, ne, ha, l1, l2, q⟩ | ⟨z, rfl, l1, l2, q⟩
  · refine ⟨_, rfl, _, rfl, _, rfl, xs.length, .inl ⟨xs, SqL.of ha, rfl⟩, Mu, B, (xs.length : Nat), rfl, bg, by omega, by omega, fun r H1 r0 r1 k1 b1 => ?_⟩
    obtain ⟨k, rfl⟩ := Int.eq_ofNat_of_zero_le r0
    have lk : k < xs.length := by omega
    have h1 : H1 a = some (.lst xs) := k1.at_ _ _ ne ha
    exact .inl ⟨a, xs, _, xs[k], rfl, rfl, SqL.of h1, atI_nat (by simp [lk]), q _ (List.getElem_mem lk) H1 k1 b1⟩
  · refine ⟨_, rfl, _, rfl, _, rfl, z.length, ⟨Nat.le_trans l2 (by decide), rfl⟩, Mu, B, (z.length : Nat), rfl, bg, by omega, by omega, fun r H1 r0 r1 k1 b1 => ?_⟩
    obtain ⟨k, rfl⟩ := Int.eq_ofNat_of_zero_le r0
    have ez : z.cps.toList.length = z.length := by
      show z.cps.toList.length = z.cps.size
      simp
    have lk : k < z.cps.toList.length := by omega
    exact .inr (.inr ⟨z, _, z.cps.toList[k], rfl, rfl, Nat.le_trans l2 (by decide), atI_nat (by rw [List.getElem?_eq_getElem lk]), q _ (List.getElem_mem lk) H1 k1 b1⟩)
end
end AG
namespace AG
open PySem PySem.Spec PyProof.Rows L2
section
variable {P : Program} {w : World} {K : PySem.W.Frag} {mg : Str → Option Value} {base : Heap} {c : Cs}
/-! ### _law_form -/
theorem kpB {Mu : Mut1} {B : Addr} {H H' : Hp} (m : Mu B) (k : Kp (fun b => b = B) H H') : Kp Mu H H' := k.wide fun b e => e ▸ m
/-- the words at a -/
def Wds (Mu : Mut1) (H : Hp) (a : Addr) (ws : List Str) : Prop := ¬ Mu a ∧ H a = some (.lst (ws.map V.str)) ∧ 1 ≤ ws.length ∧ ws.length ≤ 1000 ∧ ∀ x ∈ ws, NameOk x
theorem Wds.keep {Mu : Mut1} {H H' : Hp} {a : Addr} {ws : List Str} (h : Wds Mu H a ws) (k : Kp Mu H H') : Wds Mu H' a ws := ⟨h.1, k.at_ _ _ h.1 h.2.1, h.2.2⟩
def spLForm (n : Nat) : Sp := fun vs H Q _ => ∃ (Mu : Mut1) (B wa : Addr) (ws : List Str), vs = [.ref B, .ref wa, .int ((n + 1 : Nat) : Int)] ∧ Wl Mu H ∧ Bag Mu H B ∧ Wds Mu H wa ws ∧
  ∀ (f : Fm) v H', f.ok → f.deep ≤ n + 1 → Kp (fun b => b = B) H H' → Bag Mu H' B → Dat Mu H' v f.d → Q v H'
theorem sc__law_form : FnScope ["_law_bag_here", "_law_words", "_law_deep", "_law_way", "_law_one"] ["_law_bag_here", "_law_words", "_law_deep"] (defScope s__law_form) := ⟨rfl, rfl, rfl, by decide +kernel, rfl, by decide +kernel, by decide +kernel⟩
theorem Bag.same {Mu : Mut1} {H H' : Hp} {B : Addr} (b : Bag Mu H B) (s : Same H H') : Bag Mu H' B := by
  obtain ⟨m, L, cells, i, x, y, n, h1, h2, h3, r⟩ := b
  exact ⟨m, L, cells, i, x, y, n, s _ _ h1, h2, s _ _ h3, r⟩
theorem kpS {B : Addr} {H H1 H2 : Hp} (k : Kp (fun b => b = B) H H1) (s : Same H1 H2) : Kp (fun b => b = B) H H2 := k.trans (.ofSame s)
/-- an atom, false -/
theorem form_leaf {Mu : Mut1} {B wa : Addr} {ws : List Str} {H : Hp} {Q : VK} {D : L2.Ends} {v2 v3 x4 : Option V} (wl : Wl Mu H) (bg : Bag Mu H B) (wd : Wds Mu H wa ws) (hD : D.rt = Q) (q : ∀ (f : Fm) v H', f.ok → f.deep ≤ 1 → Kp (fun b => b = B) H H' → Bag Mu H' B → Dat Mu H' v f.d → Q v H') :
    tRet (tIf (tTest (tOp rEqC (tCall spPull [] E0 (tCons (tVar 0) (tCons (tC (.int 7)) tNil))) (tC (.int 0)))) (tTup (tCons (tC (.str "false")) tNil)) (tTup (tCons (tC (.str "atom")) (tCons (tCall spAny [] E0 (tCons (tVar 0) (tCons (tVar 1) tNil))) tNil)))) D [some (.ref B), some (.ref wa), v2, v3, x4] H := by
  subst hD
  refine ⟨_, rfl, Mu, B, 7, rfl, bg, by decide, by decide, fun r H1 r0 r1 k1 b1 => ⟨rfl, fun z => ⟨_, rfl, iteT ?_⟩, fun z => ⟨_, rfl, iteF ?_⟩⟩⟩
  · refine ⟨by show 1 ≤ sizeLine; decide, fun p np => ?_⟩
    have s2 := same_new (o := .tup [.str "false"]) np
    exact q .no _ _ trivial (Nat.le_refl _) (kpS k1 s2) (b1.same s2) (.tup ((wl.kp k1).new np) upd_same (.cons (.str _) .nil))
  · have wd1 := wd.keep (kpB bg.mu k1)
    refine ⟨_, rfl, _, rfl, Mu, B, .ref wa, rfl, b1, .inl ⟨wa, _, rfl, fun z => wd.1 (z ▸ bg.mu), wd1.2.1, by rw [List.length_map]; exact wd.2.2.1, by rw [List.length_map]; exact wd.2.2.2.1, fun x hx H2 k2 b2 => ?_⟩⟩
    obtain ⟨y, hy, rfl⟩ := List.mem_map.mp hx
    refine ⟨by show 2 ≤ sizeLine; decide, fun p np => ?_⟩
    have s3 := same_new (o := .tup [.str "atom", .str y]) np
    have k12 := k1.trans k2
    exact q (.at y) _ _ (wd.2.2.2.2 y hy) (Nat.le_refl _) (kpS k12 s3) (b2.same s3) (.tup ((wl.kp k12).new np) upd_same (.cons (.str _) (.cons (.str _) .nil)))
theorem ok__law_form (T : Txt w K mg c) : ∀ n : Nat, Def P w K mg base CX0 "_law_form" ["_law_bag_here", "_law_words", "_law_deep"] (n + 3) (spLForm n)
  | 0 => by
    refine T.d__law_form.def_ sc__law_form (fun vs H Q E ⟨_, _, _, _, e, _⟩ => by rw [e]; rfl) (fun _ _ _ _ _ _ us hl => match us, hl with | [_, _, _], _ => rfl) fun f cdv A outer s H vs Q E hr h => ?_
    obtain ⟨Mu, B, wa, ws, rfl, wl, bg, wd, q⟩ := h
    refine ⟨_, PSs.nox (pss_cons (ps_set (i := 3) sc__law_form.nd rfl (Or.inl rfl) (dcall (ok__law_pull T) hr (by omega) pass0 (pa_cons (pv 0) (pa_cons pe_int pa_nil))))
      (pss_cons (ps_if (PW.pt (pw_or (pt_cmpR op_lt (pv 2) pe_int (nomark _)) (pw_or1 (pt_cmpR op_lt (pv 3) pe_int (nomark _))))) (pss_one (ps_ret (pe_ifExp (pt_cmpR op_eqC (dcall (ok__law_pull T) hr (by omega) pass0 (pa_cons (pv 0) (pa_cons pe_int pa_nil))) pe_int (nomark _)) (pe_tup (pa_cons pe_str pa_nil)) (pe_tup (pa_cons pe_str (pa_cons (dcall (ok__law_any T) hr (by omega) pass0 (pa_cons (pv 0) (pa_cons (pv 1) pa_nil))) pa_nil)))))) pss_nil)
      (pss_cons ps_never (pss_one ps_never)))), ?_⟩
    refine ⟨_, rfl, Mu, B, 5, rfl, bg, by decide, by decide, fun r H1 r0 r1 k1 b1 => ?_⟩
    refine ⟨_, rfl, _, _, rfl, rfl, _, rfl, ?_⟩
    rw [decide_eq_true (by decide)]
    exact iteT (iteT (form_leaf (wl.kp k1) b1 (wd.keep (kpB bg.mu k1)) rfl fun f v H' o d k b dv => q f v H' o d (k1.trans k) b dv))
  | n + 1 => by
    have ih := ok__law_form T n
    refine T.d__law_form.def_ sc__law_form (fun vs H Q E ⟨_, _, _, _, e, _⟩ => by rw [e]; rfl) (fun _ _ _ _ _ _ us hl => match us, hl with | [_, _, _], _ => rfl) fun f cdv A outer s H vs Q E hr h => ?_
    obtain ⟨Mu, B, wa, ws, rfl, wl, bg, wd, q⟩ := h
    refine ⟨_, PSs.nox (pss_cons (ps_set (i := 3) sc__law_form.nd rfl (Or.inl rfl) (dcall (ok__law_pull T) hr (by omega) pass0 (pa_cons (pv 0) (pa_cons pe_int pa_nil))))
      (pss_cons (ps_if (PW.pt (pw_or (pt_cmpR op_lt (pv 2) pe_int (nomark _)) (pw_or1 (pt_cmpR op_lt (pv 3) pe_int (nomark _))))) (pss_one (ps_ret (pe_ifExp (pt_cmpR op_eqC (dcall (ok__law_pull T) hr (by omega) pass0 (pa_cons (pv 0) (pa_cons pe_int pa_nil))) pe_int (nomark _)) (pe_tup (pa_cons pe_str pa_nil)) (pe_tup (pa_cons pe_str (pa_cons (dcall (ok__law_any T) hr (by omega) pass0 (pa_cons (pv 0) (pa_cons (pv 1) pa_nil))) pa_nil)))))) pss_nil)
      (pss_cons (ps_set (i := 4) sc__law_form.nd rfl (Or.inl rfl) (dcall ih hr (by omega) pass0 (pa_cons (pv 0) (pa_cons (pv 1) (pa_cons (pe_op op_sub (pv 2) pe_int) pa_nil)))))
      (pss_one (ps_ret (pe_tup (pa_cons (pe_ix ix_dat (pe_tup (pa_cons pe_str (pa_cons pe_str (pa_cons pe_str pa_nil)))) (pe_op op_sub (pv 3) pe_int) (fun _ _ => rfl)) (pa_cons (pv 4) (pa_cons (dcall ih hr (by omega) pass0 (pa_cons (pv 0) (pa_cons (pv 1) (pa_cons (pe_op op_sub (pv 2) pe_int) pa_nil)))) pa_nil))))))))), ?_⟩
    refine ⟨_, rfl, Mu, B, 5, rfl, bg, by decide, by decide, fun r H1 r0 r1 k1 b1 => ?_⟩
    have wl1 := wl.kp k1
    have wd1 := wd.keep (kpB bg.mu k1)
    refine ⟨_, rfl, _, _, rfl, rfl, _, rfl, ?_⟩
    rw [decide_eq_false (by omega)]
    refine iteF ⟨_, rfl, _, _, rfl, rfl, _, rfl, ?_⟩
    by_cases lt : r < 2
    · rw [decide_eq_true lt]
      exact iteT (form_leaf wl1 b1 wd1 rfl fun f v H' o d k b dv => q f v H' o (by omega) (k1.trans k) b dv)
    · rw [decide_eq_false lt]
      have e1 : ((n + 1 + 1 : Nat) : Int) - 1 = ((n + 1 : Nat) : Int) := by omega
      have e2 : [V.ref B, V.ref wa, .int (((n + 1 + 1 : Nat) : Int) - 1)] = [V.ref B, V.ref wa, .int ((n + 1 : Nat) : Int)] := by rw [e1]
      refine iteF ⟨_, rfl, _, rfl, _, rfl, _, _, rfl, rfl, Mu, B, wa, ws, e2, wl1, b1, wd1, fun f1 v1 H2 o1 d1 k2 b2 dv1 => ?_⟩
      have wl2 := wl1.kp k2
      have wd2 := wd1.keep (kpB bg.mu k2)
      refine ⟨by show 3 ≤ sizeLine; decide, fun p np => ?_⟩
      have s3 := same_new (o := .tup [.str "then", .str "and", .str "or"]) np
      have dp : Dat Mu (upd H2 p (.tup [.str "then", .str "and", .str "or"])) (.ref p) (.tuple [.str "then", .str "and", .str "or"]) := .tup (wl2.new np) upd_same (.cons (.str _) (.cons (.str _) (.cons (.str _) .nil)))
      have b3 := b2.same s3
      have wl3 := wl2.same s3
      have wd3 := wd2.keep (.ofSame s3)
      have dv3 := dv1.same s3
      have k3 := kpS (k1.trans k2) s3
      generalize upd H2 p (.tup [.str "then", .str "and", .str "or"]) = H3 at s3 dp b3 wl3 wd3 dv3 k3 ⊢
      obtain ⟨o, eo⟩ : ∃ o : O3, (itemsD (.tuple [.str "then", .str "and", .str "or"]))[(r - 2).toNat]? = some (.str o.w) := by
        have cases3 : r = 2 ∨ r = 3 ∨ r = 4 := by omega
        rcases cases3 with e | e | e
        · exact ⟨.th, by rw [e]; rfl⟩
        · exact ⟨.an, by rw [e]; rfl⟩
        · exact ⟨.orr, by rw [e]; rfl⟩
      refine ⟨_, rfl, _, _, rfl, rfl, Mu, _, _, (r - 2).toNat, dp, by rw [Int.toNat_of_nonneg (by omega)], eo, fun z dz => ?_⟩
      obtain rfl := dz.asStr
      refine ⟨_, rfl, _, rfl, _, rfl, _, rfl, _, _, rfl, rfl, Mu, B, wa, ws, e2, wl3, b3, wd3, fun f2 v2 H4 o2 d2 k4 b4 dv2 => ?_⟩
      refine ⟨by show 3 ≤ sizeLine; decide, fun p5 n5 => ?_⟩
      have s5 := same_new (o := .tup [.str o.w, v1, v2]) n5
      have k5 := kpS (k3.trans k4) s5
      refine q (.bi o f1 f2) _ _ ⟨o1, o2⟩ ?_ k5 (b4.same s5) (.tup ((wl3.kp k4).new n5) upd_same (.cons (.str _) (.cons ((dv3.keep (kpB bg.mu k4)).same s5) (.cons (dv2.same s5) .nil))))
      show max f1.deep f2.deep + 1 ≤ n + 1 + 1
      omega
end
end AG
namespace AG
open PySem PySem.Spec PyProof.Rows L2
/-- a list comprehension whose items are drawn: R i tells which lists may stand ahead of turn i -/
theorem lc_any {J : It} {n : Nat} {G : Hp → Prop} {Y : Nat → Hp → V → Hp → Prop} (w : Walk J n G Y) {Mc Mu : Mut1} (hc : ∀ b, Mc b → Mu b) {g : TG} {tt : TT} {te : TE} {vs : List Nat} {σ : L2.St} {H1 : Hp} {D : Addr} {Qd : Hp → Prop} (wl : Wl Mu H1) (hD : H1 D = none) (hn : n ≤ 100000)
    (R : Nat → List PyData → Prop) (a0 : R 0 []) (Z : Nat → Hp → Prop) (z0 : Z 0 H1) (hZ : ∀ i H l, Z i H → Z i (upd H D (.lst l))) (hG : ∀ i H, Kp (wi Mc D) H1 H → Z i H → G H)
    (turn : ∀ i x H H' ds (add : V → Hp → Prop) (skip : Hp → Prop), i < n → Kp (wi Mc D) H1 H → Wl (wi Mu D) H → H D ≠ none → Z i H → R i ds → Y i H x H' → (∀ y H4 d, Kp Mc H H4 → H4 D = H D → Dat (wi Mu D) H4 y d → R (i + 1) (ds ++ [d]) → Z (i + 1) H4 → add y H4) →
      (∀ H3, Kp Mc H H3 → H3 D = H D → R (i + 1) ds → Z (i + 1) H3 → skip H3) → g x (wipe σ vs) H' fun σ2 H2 => wipe σ2 vs = wipe σ vs ∧ tt σ2 H2 fun b H3 => if b = true then te σ2 H3 add else skip H3)
    (last : ∀ H xs ds, Kp Mc H1 H → H D = some (.lst xs) → Dats Mu H xs ds → R n ds → Z n H → ¬ Mu D → Qd H) :
    ∃ W : Nat → Nat → Hp → Prop, (∃ m, W 0 m (upd H1 D (.lst []))) ∧ ∀ i m H, W i m H →
      (J.stop i H ∧ Qd H) ∨ (J.go i H ∧ ∃ Nx : Hp → Prop, (∀ H', Nx H' → ∃ m', m' < m ∧ W (i + 1) m' H') ∧ ∀ x H', J.yld i H x H' → g x (wipe σ vs) H' fun σ2 H2 => wipe σ2 vs = wipe σ vs ∧ tt σ2 H2 fun b H3 =>
        if b = true then te σ2 H3 fun y H4 => ∃ acc, H4 D = some (.lst acc) ∧ acc.length < sizeLine ∧ Nx (upd H4 D (.lst (acc ++ [y]))) else Nx H3) := by
  have out : ¬ Mu D := wl.new hD
  have put : ∀ {H : Hp} {o : HO}, Kp (wi Mc D) H (upd H D o) := kp_upd (.inr rfl)
  have far : ∀ {H H' : Hp}, Kp Mc H H' → Kp (wi Mc D) H H' := fun k => k.wide fun b m => .inl m
  have farU : ∀ {H H' : Hp}, Kp Mc H H' → Kp (wi Mu D) H H' := fun k => k.wide fun b m => .inl (hc b m)
  refine lc_it w (fun i H => ∃ xs ds, Kp (wi Mc D) H1 H ∧ H D = some (.lst xs) ∧ Dats (wi Mu D) H xs ds ∧ R i ds ∧ xs.length ≤ i ∧ Z i H) ⟨[], [], put, upd_same, .nil, a0, Nat.le_refl _, hZ _ _ _ z0⟩ (fun i H _ ⟨xs, ds, k, _, _, _, _, z⟩ => hG i H k z) ?_ ?_
  · intro i x H H' hi ⟨xs, ds, k, hx, r, ra, l, z⟩ y
    have some_ : H D ≠ none := by
      rw [hx]
      exact fun z => by cases z
    refine turn i x H H' ds _ _ hi k ((wl.kp k).wi some_) some_ z ra y (fun y H4 d k4 e4 dy ea z4 => ⟨xs, e4.trans hx, Nat.lt_of_lt_of_le (Nat.lt_of_le_of_lt l hi) (Nat.le_trans hn (by decide)), xs ++ [y], ds ++ [d], (k.trans (far k4)).trans put, upd_same, ?_, ea, ?_, hZ _ _ _ z4⟩) fun H3 k3 e3 ea z3 => ⟨xs, ds, k.trans (far k3), e3.trans hx, r.keep (farU k3), ea, Nat.le_succ_of_le l, z3⟩
    · exact ((r.keep (farU k4)).app (.cons dy .nil)).keep (kp_upd (.inr rfl))
    · rw [List.length_append, List.length_singleton]
      omega
  · intro H ⟨xs, ds, k, hx, r, ra, l, z⟩
    refine last H xs ds ⟨fun b o m e => k.at_ b o (fun q => q.elim m fun q => ?_) e, k.there⟩ hx (r.less fun b m => .inl m) ra z out
    rw [q, hD] at e
    cases e
end AG
namespace AG
open PySem PySem.Spec PyProof.Rows L2
section
variable {P : Program} {w : World} {K : PySem.W.Frag} {mg : Str → Option Value} {base : Heap} {c : Cs}
theorem kp_same_at {B D : Addr} {H H' : Hp} (k : Kp (fun b => b = B) H H') (n : D ≠ B) (h : H D ≠ none) : H' D = H D := by
  cases e : H D with
  | none => exact absurd e h
  | some o => exact k.at_ D o n e
/-- the bag while a list grows at D -/
structure BagD (Mu : Mut1) (D B : Addr) (H : Hp) : Prop where
  ne : B ≠ D
  bg : Bag (wi Mu D) H B
theorem Bag.grow {Mu Mv : Mut1} {H : Hp} {B : Addr} (b : Bag Mu H B) (u : ∀ b, Mu b → Mv b) (g : ∀ b, Mv b → Mu b ∨ H b = none) : Bag Mv H B := by
  obtain ⟨m, L, cells, i, x, y, n, h1, h2, h3, r⟩ := b
  exact ⟨u _ m, L, cells, i, x, y, n, h1, off g h2 h3, h3, r⟩
theorem BagD.of {Mu : Mut1} {H : Hp} {D B : Addr} (b : Bag Mu H B) (n : H D = none) : BagD Mu D B H := by
  have nb : B ≠ D := fun z => by
    obtain ⟨_, _, _, _, _, _, _, h1, _⟩ := b
    rw [z, n] at h1
    cases h1
  exact ⟨nb, b.grow (fun _ m => .inl m) fun x m => m.imp id fun e => by rw [show x = D from e]; exact n⟩
theorem BagD.upd {Mu : Mut1} {H : Hp} {D B : Addr} {o : HO} (b : BagD Mu D B H) : BagD Mu D B (upd H D o) := by
  obtain ⟨ne, m, L, cells, i, x, y, n, h1, h2, h3, r⟩ := b
  exact ⟨ne, m, L, cells, i, x, y, n, by rw [upd_ne ne]; exact h1, h2, by rw [upd_ne fun z => h2 (.inr z)]; exact h3, r⟩
theorem BagD.out {Mu : Mut1} {H : Hp} {D B : Addr} (b : BagD Mu D B H) (mB : Mu B) : Bag Mu H B := by
  obtain ⟨ne, m, L, cells, i, x, y, n, h1, h2, h3, r⟩ := b
  exact ⟨mB, L, cells, i, x, y, n, h1, fun z => h2 (.inl z), h3, r⟩
theorem Wds.grow {Mu Mv : Mut1} {H : Hp} {a : Addr} {ws : List Str} (h : Wds Mu H a ws) (g : ∀ b, Mv b → Mu b ∨ H b = none) : Wds Mv H a ws := ⟨off g h.1 h.2.1, h.2⟩
/-! ### _law_rows -/
def spLRows : Sp := fun vs H Q _ => ∃ (Mu : Mut1) (B na wa : Addr) (ns ws : List Str) (n : Nat), vs = [.ref B, .ref na, .ref wa, .int (n : Nat)] ∧ Wl Mu H ∧ Bag Mu H B ∧ Wds Mu H na ns ∧ Wds Mu H wa ws ∧ n ≤ 8 ∧
  ∀ (rs : List Row) p H', rs.length = n → (∀ r ∈ rs, RowOk r) → Kp (fun b => b = B) H H' → Bag Mu H' B → Dat Mu H' (.ref p) (.list (rowsD rs)) → H p = none → Q (.ref p) H'
theorem sc__law_rows : FnScope ["_law_bag_here", "_law_names_here", "_law_words", "_law_many", "_law_k"] ["_law_bag_here", "_law_names_here", "_law_words", "_law_many"] (defScope s__law_rows) := ⟨rfl, rfl, rfl, by decide +kernel, rfl, by decide +kernel, by decide +kernel⟩
theorem ok__law_rows (T : Txt w K mg c) : Def P w K mg base CX0 "_law_rows" ["_law_bag_here", "_law_names_here", "_law_words", "_law_many"] 6 spLRows := by
  refine T.d__law_rows.def_ sc__law_rows (fun vs H Q E ⟨_, _, _, _, _, _, _, e, _⟩ => by rw [e]; rfl) (fun _ _ _ _ _ _ us hl => match us, hl with | [_, _, _, _], _ => rfl) fun f cdv A outer s H vs Q E hr h => ?_
  obtain ⟨Mu, B, na, wa, ns, ws, n, rfl, wl, bg, nd, wd, hn, q⟩ := h
  refine ⟨_, PSs.nox (pss_one (ps_ret (pe_lc (own := [("_law_k", 4)]) (te := tTup (tCons (tCall spAny [] E0 (tCons (tVar 0) (tCons (tVar 1) tNil))) (tCons (tCall (spLForm 2) [] E0 (tCons (tVar 0) (tCons (tVar 2) (tCons (tC (.int 3)) tNil)))) tNil))) rfl sc__law_rows.nd (pi_range1 (by rfl) T.n_range (pa_cons (pv 3) pa_nil)) (blkOk_by (N := ["_law_bag_here", "_law_names_here", "_law_words", "_law_many", "_law_k"]) (sc := (defScope s__law_rows)) (by decide +kernel)) (fun _ _ _ _ _ => (pg_name (i := 4) sc__law_rows.nd rfl (Or.inl rfl))) (fun _ _ _ _ _ => pts_nil) (fun _ _ _ _ _ => (pe_tup (pa_cons (dcall (ok__law_any T) hr (by decide) pass0 (pa_cons (pv 0) (pa_cons (pv 1) pa_nil))) (pa_cons (dcall (ok__law_form T 2) hr (by decide) pass0 (pa_cons (pv 0) (pa_cons (pv 2) (pa_cons pe_int pa_nil)))) pa_nil))))))), ?_⟩
  refine ⟨_, rfl, _, rfl, by omega, by omega, fun D hD => ?_⟩
  have gD : ∀ b, wi Mu D b → Mu b ∨ H b = none := fun b m => m.imp id fun e => by rw [show b = D from e]; exact hD
  have bD := BagD.of bg hD
  have nd1 := nd.grow gD
  have wd1 := wd.grow gD
  refine lc_any (n := n) (walk_range (lo := 0) (n := n)) (Mc := fun b => b = B) (Mu := Mu) (fun b e => e ▸ bg.mu) wl hD (by omega) (fun i ds => ∃ rs : List Row, rs.length = i ∧ (∀ r ∈ rs, RowOk r) ∧ ds = rowsD rs) ⟨[], rfl, fun _ h => (List.not_mem_nil h).elim, rfl⟩ (fun _ H => BagD Mu D B H) bD (fun _ _ _ b => b.upd) (fun _ _ _ _ => trivial) ?_ ?_
  · rintro i x H2' H2 ds add skip hi k2 wl2 hD2 bd2 ⟨rs, el, ok, rfl⟩ ⟨rfl, rfl⟩ ha -
    have kU : Kp (wi Mu D) H H2 := k2.wide fun b m => m.elim (fun e => .inl ((show b = B from e) ▸ bg.mu)) .inr
    have nd2 := nd1.keep kU
    have wd2 := wd1.keep kU
    have bB := bd2.bg
    refine ⟨rfl, ?_⟩
    refine ⟨_, rfl, _, rfl, wi Mu D, B, .ref na, rfl, bB, .inl ⟨na, _, rfl, fun z => nd2.1 (z ▸ bB.mu), nd2.2.1, by rw [List.length_map]; exact nd.2.2.1, by rw [List.length_map]; exact nd.2.2.2.1, fun x hx H3 k3 b3 => ?_⟩⟩
    obtain ⟨y, hy, rfl⟩ := List.mem_map.mp hx
    have wd3 := wd2.keep (kpB bB.mu k3)
    refine ⟨_, rfl, _, rfl, wi Mu D, B, wa, ws, rfl, wl2.kp k3, b3, wd3, fun g v4 H4 og dg k4 b4 d4 => ?_⟩
    refine ⟨by show 2 ≤ sizeLine; decide, fun p np => ?_⟩
    have s5 := same_new (o := .tup [.str y, v4]) np
    have k5 : Kp (fun b => b = B) H2 _ := kpS (k3.trans k4) s5
    refine ha _ _ (Row.d (y, g)) k5 (kp_same_at k5 (Ne.symm bd2.ne) hD2) (.tup ((wl2.kp (k3.trans k4)).new np) upd_same (.cons (.str _) (.cons (d4.same s5) .nil))) ⟨rs ++ [(y, g)], by rw [List.length_append, el]; rfl, ?_, ?_⟩ ⟨bd2.ne, b4.same s5⟩
    · intro r hr
      rcases List.mem_append.mp hr with hr | hr
      · exact ok r hr
      · rw [List.mem_singleton.mp hr]
        exact ⟨nd.2.2.2.2 y hy, og, dg⟩
    · unfold rowsD
      rw [List.map_append]
      rfl
  · rintro H2 xs ds k2 hx r2 ⟨rs, el, ok, rfl⟩ bd2 mD
    exact q rs D H2 el ok k2 (bd2.out bg.mu) (.lst mD hx r2) hD
end
end AG
namespace AG
open PySem PySem.Spec PyProof.Rows L2
/-! ### the law's content -/
def Ent.lawD (e : Ent) : PyData := .tuple [.str e.name, .list (rowsD e.rows), e.goal.d, .list (e.cmds.map Cm.law)]
abbrev lawC (es : List Ent) : PyData := .list (es.map Ent.lawD)
/-- the places of a name -/
def spots (es : List Ent) (x : Str) (n : Nat) : List Nat := (List.range n).filter fun j => decide ((es[j]?).map Ent.name = some x)
def place (es : List Ent) (x : Str) : Option Nat := (spots es x es.length).head?
theorem place_some {es : List Ent} {x : Str} {i : Nat} (h : place es x = some i) : ∃ e, es[i]? = some e ∧ e.name = x := by
  have hm : i ∈ spots es x es.length := List.mem_of_mem_head? h
  have := (List.mem_filter.mp hm).2
  cases e : es[i]? with
  | none =>
    rw [e] at this
    simp at this
  | some y =>
    rw [e] at this
    exact ⟨y, rfl, by simpa using this⟩
theorem place_none {es : List Ent} {x : Str} (h : place es x = none) : ¬ has es x := fun z => by
  obtain ⟨e, he, hx⟩ := List.mem_map.mp z
  obtain ⟨i, hi, hie⟩ := List.mem_iff_getElem.mp he
  have h0 : spots es x es.length = [] := List.head?_eq_none_iff.mp h
  have hm : i ∈ spots es x es.length := List.mem_filter.mpr ⟨List.mem_range.mpr hi, by
    rw [List.getElem?_eq_getElem hi, hie]
    simpa using hx⟩
  rw [h0] at hm
  exact List.not_mem_nil hm
theorem place_has {es : List Ent} {x : Str} (h : has es x) : ∃ i e, place es x = some i ∧ es[i]? = some e ∧ e.name = x := by
  cases hp : place es x with
  | none => exact absurd h (place_none hp)
  | some i =>
    obtain ⟨e, he, hx⟩ := place_some hp
    exact ⟨i, e, rfl, he, hx⟩
theorem place_ent {es : List Ent} {x : Str} {i : Nat} {e : Ent} (nd : (names es).Nodup) (h : place es x = some i) (he : es[i]? = some e) : ent? es x = some e := by
  obtain ⟨e2, he2, hx⟩ := place_some h
  rw [he] at he2
  cases he2
  rw [← hx]
  exact ent_at nd he
theorem spots_take {es : List Ent} {x : Str} {i : Nat} {e : Ent} (h : es[i]? = some e) : spots es x (i + 1) = if e.name = x then spots es x i ++ [i] else spots es x i := by
  unfold spots
  rw [List.range_succ, List.filter_append]
  by_cases q : e.name = x
  · rw [if_pos q, List.filter_cons_of_pos (by rw [h]; simpa using q)]
    rfl
  · rw [if_neg q, List.filter_cons_of_neg (by rw [h]; simpa using q)]
    simp
def placeV : Option Nat → V
  | some i => .int (i : Nat)
  | none => .non
section
variable {P : Program} {w : World} {K : PySem.W.Frag} {mg : Str → Option Value} {base : Heap} {c : Cs}
theorem Dats.map_at {α : Type} {Mu : Mut1} {H : Hp} {f : α → PyData} {vs : List V} {as : List α} {i : Nat} {a : α} (r : Dats Mu H vs (as.map f)) (h : as[i]? = some a) : ∃ v, vs[i]? = some v ∧ Dat Mu H v (f a) := r.at (by rw [List.getElem?_map, h]; rfl)
/-! ### _law_place -/
def spPlace : Sp := fun vs H Q _ => ∃ (Mu : Mut1) (v : V) (es : List Ent) (x : Str), vs = [v, .str x] ∧ Wl Mu H ∧ Dat Mu H v (lawC es) ∧ es.length ≤ 100 ∧ ∀ H', Same H H' → Q (placeV (place es x)) H'
theorem sc__law_place : FnScope ["_law_content", "_law_name", "_law_at", "_law_spots"] ["_law_content", "_law_name"] (defScope s__law_place) := ⟨rfl, rfl, rfl, by decide +kernel, rfl, by decide +kernel, by decide +kernel⟩
theorem ok__law_place (T : Txt w K mg c) : Def P w K mg base CX0 "_law_place" ["_law_content", "_law_name"] 1 spPlace := by
  refine T.d__law_place.def_ sc__law_place (fun vs H Q E ⟨_, _, _, _, e, _⟩ => by rw [e]; rfl) (fun _ _ _ _ _ _ us hl => match us, hl with | [_, _], _ => rfl) fun f cdv A outer s H vs Q E hr h => ?_
  obtain ⟨Mu, v, es, x, rfl, wl, dv, hl, q⟩ := h
  refine ⟨_, PSs.nox (pss_cons (ps_setLc (i := 3) (own := [("_law_at", 2)]) (tt := tTest (tOp rEqC (tOp rIxD (tOp rIxD (tVar 0) (tVar 2)) (tC (.int 0))) (tVar 1))) rfl sc__law_place.nd rfl rfl (sw_true rfl rfl rfl (by decide +kernel)) (pi_range1 (by rfl) T.n_range (pa_cons (len1 T.n_len (pa_cons (pv 0) pa_nil)) pa_nil)) (blkOk_by (N := ["_law_content", "_law_name", "_law_at", "_law_spots"]) (sc := (defScope s__law_place)) (by decide +kernel)) (fun _ _ _ _ _ => (pg_name (i := 2) sc__law_place.nd rfl (Or.inl rfl))) (fun _ _ _ _ _ => (pts_one (pt_cmpR op_eqC (pe_ix ix_dat (pe_ix ix_dat (pv 0) (pv 2) (fun _ _ => rfl)) pe_int (fun _ _ => rfl)) (pv 1) (nomark _)))) (fun _ _ _ _ _ => (pv 2)))
      (pss_one (ps_ret (pe_ifExp (pt_cmpR (op_neD hr.units) (pv 3) (pe_lst pa_nil) (nomark _)) (pe_ix ix_dat (pv 3) pe_int (fun _ _ => rfl)) pe_non)))), ?_⟩
  have ll : (es.map Ent.lawD).length = es.length := List.length_map ..
  refine ⟨_, rfl, _, dv.lenL, _, rfl, by omega, by omega, fun D hD => ?_⟩
  rw [show (((es.map Ent.lawD).length : Nat) : Int).toNat = es.length from ll]
  refine lc_dat (n := es.length) (walk_range (lo := 0) (n := es.length)) (Mc := fun _ => False) (Mu := Mu) (fun _ z => z.elim) wl hD (by omega) (fun i => (spots es x i).map fun j => PyData.int (j : Nat)) rfl (fun _ _ => True) trivial (fun _ _ _ _ => trivial) (fun _ _ _ _ => trivial) ?_ ?_
  · rintro i y H2' H2 add skip hi k2 wl2 hD2 - ⟨rfl, rfl⟩ ha hs
    obtain ⟨e, he⟩ : ∃ e, es[i]? = some e := ⟨es[i], List.getElem?_eq_getElem hi⟩
    have dv2 : Dat Mu H2 v (lawC es) := by
      have k3 : Kp (fun b => b = D) H H2 := k2.wide fun b m => m.elim (fun z => z.elim) id
      obtain ⟨a, xs, rfl, ma, h1, r1⟩ := dv.asLst
      have g : ∀ b, wi Mu D b → Mu b ∨ H b = none := fun b m => m.imp id fun e => by rw [show b = D from e]; exact hD
      have := ((Dat.lst ma h1 r1 : Dat Mu H (.ref a) (lawC es)).grow g).keep (k3.wide fun b m => .inr m)
      exact this.less fun b m => .inl m
    refine ⟨rfl, ?_⟩
    refine ⟨_, rfl, _, rfl, Mu, _, e.lawD, i, dv2, by simp, ?_, fun z1 d1 => ?_⟩
    · show (es.map Ent.lawD)[i]? = some e.lawD
      rw [List.getElem?_map, he]
      rfl
    · refine ⟨Mu, _, _, 0, d1, rfl, rfl, fun z2 d2 => ?_⟩
      obtain rfl := d2.asStr
      have et := spots_take (x := x) he
      refine ⟨_, rfl, rfl, fun z => ⟨_, rfl, iteT ?_⟩, fun z => ⟨_, rfl, iteF ?_⟩⟩
      · have e1 : e.name = x := by injection z
        rw [if_pos e1] at et
        refine ⟨_, rfl, ha _ H2 (.int (i : Nat)) (.refl _) rfl ?_ ?_ trivial⟩
        · show Dat (wi Mu D) H2 (V.int (0 + (i : Nat))) (.int (i : Nat))
          rw [show (0 : Int) + (i : Nat) = (i : Nat) by omega]
          exact .int _
        · rw [et, List.map_append]
          rfl
      · have e1 : ¬ e.name = x := fun q => z (by rw [q])
        rw [if_neg e1] at et
        exact hs H2 (.refl _) rfl (by rw [et]) trivial
  · rintro H2 xs k2 hx r2 - mD
    have s2 : Same H H2 := k2.same fun _ z => z
    refine ⟨_, rfl, Nat.zero_le _, fun p np => ⟨.list ((spots es x es.length).map fun j => PyData.int (j : Nat)), .list [], ?_, .lst (SqL.of upd_same) .nil, (Lays.lst (n := 0) (Lays.map fun _ _ => Lay.int)).shaped, by decide +kernel, _, rfl, ?_⟩⟩
    · exact .lst (SqL.of (same_new np _ _ hx)) ((r2.same (same_new np)).dp)
    · rw [eqv_nil]
      have sF := s2.trans (same_new (o := .lst []) np)
      have hxF := same_new (o := .lst []) np _ _ hx
      have rF := r2.same (same_new (o := .lst []) np)
      generalize upd H2 p (.lst []) = H3 at sF hxF rF ⊢
      have eP : place es x = (spots es x es.length).head? := rfl
      cases hsp : spots es x es.length with
      | nil =>
        rw [hsp] at eP
        rw [eP] at q
        exact iteF (q H3 sF)
      | cons i r =>
        rw [hsp] at eP rF
        rw [eP] at q
        have dL : Dat Mu H3 (.ref D) (.list ((i :: r).map fun j => PyData.int (j : Nat))) := .lst mD hxF rF
        refine iteT ⟨_, rfl, Mu, _, _, 0, dL, rfl, rfl, fun z dz => ?_⟩
        obtain rfl := dz.asInt
        exact q H3 sF
end
end AG
namespace AG
open PySem PySem.Spec PyProof.Rows L2
section
variable {P : Program} {w : World} {K : PySem.W.Frag} {mg : Str → Option Value} {base : Heap} {c : Cs}
/-! ### _law_unlike -/
def spUnlike : Sp := fun vs H Q _ => ∃ (Mu : Mut1) (v : V) (xs : List Str), vs = [v] ∧ Wl Mu H ∧ Dat Mu H v (.list (xs.map PyData.str)) ∧ xs.length ≤ 100 ∧ ∀ p H', Same H H' → Dat Mu H' (.ref p) (.list ((uniq xs).map PyData.str)) → H p = none → Q (.ref p) H'
theorem sc__law_unlike : FnScope ["_law_things", "_law_found", "_law_thing"] ["_law_things"] (defScope s__law_unlike) := ⟨rfl, rfl, rfl, by decide +kernel, rfl, by decide +kernel, by decide +kernel⟩
theorem ok__law_unlike (T : Txt w K mg c) : Def P w K mg base CX0 "_law_unlike" ["_law_things"] 1 spUnlike := by
  refine T.d__law_unlike.def_ sc__law_unlike (fun vs H Q E ⟨_, _, _, e, _⟩ => by rw [e]; rfl) (fun _ _ _ _ _ _ us hl => match us, hl with | [_], _ => rfl) fun f cdv A outer s H vs Q E hr h => ?_
  obtain ⟨Mu, v, xs, rfl, wl, dv, hl, q⟩ := h
  refine ⟨_, PSs.nox (pss_cons (ps_set (i := 1) sc__law_unlike.nd rfl (Or.inl rfl) (pe_lst pa_nil))
      (pss_cons (ps_for PassesOwn.never rfl (pi_list (pv 0)) (pg_name (i := 2) sc__law_unlike.nd rfl (Or.inl rfl)) (pss_one (ps_if (pt_cmpR op_notInC (pv 2) (pv 1) rfl) (pss_one (ps_expr (pe_bm PySem.F.plainAttrs_list PySem.F.slot_list_append PySem.F.type_list_append mt_append (pv 1) (pa_cons (pv 2) pa_nil)))) pss_nil)))
      (pss_one (ps_ret (pv 1))))), ?_⟩
  obtain ⟨a, ys, rfl, ma, ha, ra⟩ := dv.asLst
  have e1 := dats_strs_eq ra
  subst e1
  refine ⟨Nat.zero_le _, fun F hF => ⟨_, rfl, a, rfl, ⟨_, SqL.of (same_new hF _ _ ha)⟩, ?_⟩⟩
  have naF : a ≠ F := ne_of_none ha hF
  refine for_it walk_list (fun i σ Hj => ∃ x2, σ = [some (V.ref a), some (V.ref F), x2] ∧ Kp (fun b => b = F) (upd H F (.lst [])) Hj ∧ Hj F = some (.lst ((uniq (xs.take i)).map V.str))) ⟨_, rfl, .refl _, upd_same⟩ (fun i σ Hj _ ⟨_, _, kj, _⟩ => SqL.of (kj.at_ _ _ naF (same_new hF _ _ ha))) ?_ ?_
  · rintro i x0 σ Hj Hj' hi ⟨x2, rfl, kj, hj⟩ ⟨rfl, hx0⟩
    obtain ⟨z, hz, rfl⟩ := map_at hx0
    have ut := uniq_take hz
    refine ⟨_, rfl, _, rfl, F, _, rfl, .inl (SqL.of hj), rfl, flat_strs _, fun e => ?_, fun e => ?_⟩
    · rw [inV_strs] at e
      refine ⟨_, rfl, iteF ⟨_, rfl, kj, ?_⟩⟩
      rw [ut]
      unfold add1
      rw [if_pos (of_decide_eq_true e)]
      exact hj
    · rw [inV_strs] at e
      have lu : ((uniq (xs.take i)).map V.str).length < sizeLine := by
        rw [List.length_map]
        have h1 := uniq_len (xs.take i)
        rw [List.length_take] at h1
        exact Nat.lt_of_le_of_lt (by omega : _ ≤ 100) (by decide)
      refine ⟨_, rfl, iteT ⟨_, rfl, .inl ⟨rfl, _, SqL.of hj⟩, _, rfl, F, _, _, rfl, rfl, hj, lu, _, rfl, kj.trans (kp_upd rfl), ?_⟩⟩
      rw [ut]
      unfold add1
      rw [if_neg (of_decide_eq_false e), upd_same, List.map_append]
      rfl
  · rintro σ Hj ⟨x2, rfl, kj, hj⟩
    rw [List.length_map, List.take_length] at hj
    have sF : Same H Hj := fun b o eb => by
      have nb := ne_of_none eb hF
      exact kj.at_ b o nb (by rw [upd_ne nb]; exact eb)
    exact ⟨_, rfl, q F Hj sF (.lst (wl.new hF) hj (dats_strs _)) hF⟩
end
end AG
namespace AG
open PySem PySem.Spec PyProof.Rows L2
section
variable {P : Program} {w : World} {K : PySem.W.Frag} {mg : Str → Option Value} {base : Heap} {c : Cs}
/-! ### _law_blocks -/
theorem sc__law_blocks : FnScope ["_law_command", "_law_spot"] ["_law_command"] (defScope s__law_blocks) := ⟨rfl, rfl, rfl, by decide +kernel, rfl, by decide +kernel, by decide +kernel⟩
theorem ok__law_blocks (T : Txt w K mg c) : Def P w K mg base CX0 "_law_blocks" ["_law_command"] 1 spBlocks := by
  refine T.d__law_blocks.def_ sc__law_blocks (fun vs H Q E ⟨_, _, _, _, e, _⟩ => by rw [e]; rfl) (fun _ _ _ _ _ _ us hl => match us, hl with | [_], _ => rfl) fun f cdv A outer s H vs Q E hr h => ?_
  obtain ⟨Mu, v, x, a, rfl, wl, dv, hx, q⟩ := h
  have hu := hu_of hr
  refine ⟨_, PSs.nox (pss_cons (ps_set (i := 1) sc__law_blocks.nd rfl (Or.inl rfl) (pe_disp (pps_cons pe_str pe_int (pps_cons pe_str pe_int (pps_cons pe_str pe_int (pps_cons pe_str pe_int pps_nil)))) (by rfl) (by rfl) (fun z => by cases z) (by decide)))
      (pss_one (ps_ret (pe_ifExp (pt_cmp (pc_din hu (pe_ix ix_dat (pv 0) pe_int (fun _ _ => rfl)) (pv 1))) (pe_callTy cListOf (by rfl) T.n_list bb_list (pa_cons (pe_slice sl_tupD (pv 0) (po_some (pe_dget hu (pv 1) (pe_ix ix_dat (pv 0) pe_int (fun _ _ => rfl)) (fun _ _ => rfl))) po_none) pa_nil)) (pe_lst pa_nil))))), ?_⟩
  refine fun p np => ⟨upd_same, [(.inr "first", .int 1), (.inr "try", .int 1), (.inr "repeat", .int 2), (.inr "all", .int 1)], rfl, by decide, ?_⟩
  rw [upd_upd]
  have s1 : Same H (upd H p (.dK (mergeK [] [(.inr "first", .int 1), (.inr "try", .int 1), (.inr "repeat", .int 2), (.inr "all", .int 1)]))) := same_new np
  have d1 := dv.same s1
  have hd : upd H p (.dK (mergeK [] [(.inr "first", .int 1), (.inr "try", .int 1), (.inr "repeat", .int 2), (.inr "all", .int 1)])) p = some (.dK (mergeK [] [(.inr "first", .int 1), (.inr "try", .int 1), (.inr "repeat", .int 2), (.inr "all", .int 1)])) := upd_same
  generalize upd H p (.dK (mergeK [] [(.inr "first", .int 1), (.inr "try", .int 1), (.inr "repeat", .int 2), (.inr "all", .int 1)])) = H1 at s1 d1 hd ⊢
  refine ⟨_, rfl, Mu, _, _, 0, d1, rfl, rfl, fun z dz => ?_⟩
  obtain rfl := dz.asStr
  refine ⟨_, rfl, p, _, rfl, DGet.k (k := Sum.inr x) hd, _, rfl, ?_⟩
  have wl1 := wl.same s1
  have none_ : ∀ {D : L2.Ends} {σ : L2.St}, D.rt = Q → blk x a = [] → tLst tNil σ H1 D.rt := fun {D σ} hD eb => by
    rw [hD]
    exact ⟨Nat.zero_le _, fun p2 n2 => q p2 _ (s1.trans (same_new n2)) (by rw [eb]; exact .lst (wl1.new n2) upd_same .nil) (s1.free n2)⟩
  rcases hx with rfl | rfl | rfl | rfl
  · rw [show (valV (mergeK [] [((Sum.inr ("first" : Str) : Key), V.int 1), (.inr "try", .int 1), (.inr "repeat", .int 2), (.inr "all", .int 1)]) (Sum.inr ("exact" : Str))).isSome = false from by decide +kernel]
    exact iteF (none_ rfl rfl)
  · rw [show (valV (mergeK [] [((Sum.inr ("first" : Str) : Key), V.int 1), (.inr "try", .int 1), (.inr "repeat", .int 2), (.inr "all", .int 1)]) (Sum.inr ("intro" : Str))).isSome = false from by decide +kernel]
    exact iteF (none_ rfl rfl)
  · rw [show (valV (mergeK [] [((Sum.inr ("first" : Str) : Key), V.int 1), (.inr "try", .int 1), (.inr "repeat", .int 2), (.inr "all", .int 1)]) (Sum.inr ("recall" : Str))).isSome = false from by decide +kernel]
    exact iteF (none_ rfl rfl)
  · rw [show (valV (mergeK [] [((Sum.inr ("first" : Str) : Key), V.int 1), (.inr "try", .int 1), (.inr "repeat", .int 2), (.inr "all", .int 1)]) (Sum.inr ("try" : Str))).isSome = true from by decide +kernel]
    refine iteT ⟨_, rfl, _, rfl, _, rfl, Mu, _, _, 0, d1, rfl, rfl, fun z dz => ?_⟩
    obtain rfl := dz.asStr
    have g : DGet H1 p (.str "try") (valV (mergeK [] [((Sum.inr ("first" : Str) : Key), V.int 1), (.inr "try", .int 1), (.inr "repeat", .int 2), (.inr "all", .int 1)]) (Sum.inr ("try" : Str))) := DGet.k (k := Sum.inr ("try" : Str)) hd
    rw [show valV (mergeK [] [((Sum.inr ("first" : Str) : Key), V.int 1), (.inr "try", .int 1), (.inr "repeat", .int 2), (.inr "all", .int 1)]) (Sum.inr ("try" : Str)) = some (.int 1) from rfl] at g
    exact ⟨p, .int 1, rfl, g, 1, rfl, Mu, _, wl1, d1, fun p2 H2 s2 d2 => ⟨Mu, _, wl1.same s2, d2, .inr rfl, fun p3 H3 s3 d3 n3 => q p3 H3 ((s1.trans s2).trans s3) d3 (s1.free (s2.free n3))⟩⟩
end
end AG
namespace AG
open PySem PySem.Spec PyProof.Rows L2
section
variable {P : Program} {w : World} {K : PySem.W.Frag} {mg : Str → Option Value} {base : Heap} {c : Cs}
/-! ### _law_paths -/
theorem cat_path {Mu : Mut1} {H : Hp} {x y : V} {p r : List Int} {Q : VK} (wl : Wl Mu H) (da : Dat Mu H x (pathD p)) (db : Dat Mu H y (pathD r)) (lp : p.length + r.length ≤ 100) (hr : r ≠ []) (q : ∀ v H', Same H H' → Dat Mu H' v (pathD (p ++ r)) → Q v H') : rCatA K x y H Q := by
  obtain ⟨a, xs, rfl, ma, ha, ra⟩ := da.asTup
  obtain ⟨b, ys, rfl, mb, hb, rb⟩ := db.asTup
  have lx : xs.length = p.length := ra.length.trans (List.length_map ..)
  have ly : ys.length = r.length := rb.length.trans (List.length_map ..)
  refine ⟨a, b, xs, ys, rfl, rfl, SqT.of ha, SqT.of hb, ?_, fun e => ?_, fun _ e => ?_, fun _ _ d nd => ?_⟩
  · rw [lx, ly]
    exact Nat.le_trans lp (by decide)
  · have ep : p = [] := List.length_eq_zero_iff.mp (by rw [← lx, e]; rfl)
    rw [ep] at q
    exact q (.ref b) H (.refl _) db
  · exact absurd (List.length_eq_zero_iff.mp (by rw [← ly, e]; rfl)) hr
  · refine q (.ref d) _ (same_new nd) (.tup (wl.new nd) upd_same ?_)
    rw [List.map_append]
    exact (ra.app rb).same (same_new nd)
theorem Cm.law_blk (d : Cm) (ok : d.ok) {a : PyData} (el : d.law = .tuple [.str d.w, a]) : ∃ bs : List Cm, (∀ b ∈ bs, b.ok ∧ b.lv + 1 ≤ d.lv) ∧ bs.length ≤ 1 ∧ blk d.w a = bs.map (fun b => .list [b.law]) ∧ ∀ p i, pairL p i d = pairD (p ++ [i]) d.law :: bs.flatMap fun b => pairsL (p ++ [i] ++ [0]) 0 [b] := by
  cases d with
  | one s =>
    refine ⟨[], fun _ h => (List.not_mem_nil h).elim, Nat.zero_le _, ?_, fun p i => rfl⟩
    unfold blk
    rw [if_neg (show ¬ (Cm.one s).w = "try" from s.not_try)]
    rfl
  | att s =>
    cases el
    exact ⟨[.one s], fun b h => by rw [List.mem_singleton.mp h]; exact ⟨ok, Nat.le_refl _⟩, Nat.le_refl _, rfl, fun p i => rfl⟩
def spLPaths (n : Nat) : Sp := fun vs H Q _ => ∃ (Mu : Mut1) (v u : V) (cs : List Cm) (p : List Int), vs = [v, u] ∧ 0 < n ∧ Wl Mu H ∧ Dat Mu H v (.list (cs.map Cm.law)) ∧ Dat Mu H u (pathD p) ∧ (∀ d ∈ cs, d.ok ∧ d.lv ≤ n) ∧ p.length + 2 * n ≤ 5 ∧ cs.length ≤ 10 ∧
  ∀ q H', Same H H' → Dat Mu H' (.ref q) (.list (pairsL p 0 cs)) → H q = none → Q (.ref q) H'
theorem sc__law_paths : FnScope ["_law_commands", "_law_path", "_law_found", "_law_at", "_law_blocks_here", "_law_spot"] ["_law_commands", "_law_path"] (defScope s__law_paths) := ⟨rfl, rfl, rfl, by decide +kernel, rfl, by decide +kernel, by decide +kernel⟩
theorem ok__law_paths (T : Txt w K mg c) (n : Nat) : Def P w K mg base CX0 "_law_paths" ["_law_commands", "_law_path"] (n + 2) (spLPaths n) := by
  induction n with
  | zero =>
    refine T.d__law_paths.def_ sc__law_paths (fun vs H Q E ⟨_, _, _, _, _, e, _⟩ => by rw [e]; rfl) (fun _ _ _ _ _ _ us hl => match us, hl with | [_, _], _ => rfl) fun f cdv A outer s H vs Q E hr h => ?_
    obtain ⟨_, _, _, _, _, _, hn, _⟩ := h
    exact absurd hn (Nat.lt_irrefl 0)
  | succ n ih =>
    refine T.d__law_paths.def_ sc__law_paths (fun vs H Q E ⟨_, _, _, _, _, e, _⟩ => by rw [e]; rfl) (fun _ _ _ _ _ _ us hl => match us, hl with | [_, _], _ => rfl) fun f cdv A outer s H vs Q E hr h => ?_
    obtain ⟨Mu, v, u, cs, p, rfl, hn, wl, dv, du, ok, hp, hl, q⟩ := h
    refine ⟨_, PSs.nox (pss_cons (ps_set (i := 2) sc__law_paths.nd rfl (Or.inl rfl) (pe_lst pa_nil))
      (pss_cons (ps_for PassesOwn.never rfl (pi_range1 (by rfl) T.n_range (pa_cons (len1 T.n_len (pa_cons (pv 0) pa_nil)) pa_nil)) (pg_name (i := 3) sc__law_paths.nd rfl (Or.inl rfl)) (pss_cons (ps_expr (pe_bm PySem.F.plainAttrs_list PySem.F.slot_list_append PySem.F.type_list_append mt_append (pv 2) (pa_cons (pe_tup (pa_cons (pe_op op_catA (pv 1) (pe_tup (pa_cons (pv 3) pa_nil))) (pa_cons (pe_ix ix_dat (pv 0) (pv 3) (fun _ _ => rfl)) pa_nil))) pa_nil)))
      (pss_cons (ps_set (i := 4) sc__law_paths.nd rfl (Or.inl rfl) (dcall (ok__law_blocks T) hr (by omega) pass0 (pa_cons (pe_ix ix_dat (pv 0) (pv 3) (fun _ _ => rfl)) pa_nil)))
      (pss_one (ps_for PassesOwn.never rfl (pi_range1 (by rfl) T.n_range (pa_cons (len1 T.n_len (pa_cons (pv 4) pa_nil)) pa_nil)) (pg_name (i := 5) sc__law_paths.nd rfl (Or.inl rfl)) (pss_one (ps_set (i := 2) sc__law_paths.nd rfl (Or.inl rfl) (pe_op op_cat (pv 2) (dcall ih hr (by omega) pass0 (pa_cons (pe_ix ix_dat (pv 4) (pv 5) (fun _ _ => rfl)) (pa_cons (pe_op op_catA (pv 1) (pe_tup (pa_cons (pv 3) (pa_cons (pv 5) pa_nil)))) pa_nil)))))))))))
      (pss_one (ps_ret (pv 2))))), ?_⟩
    have ll : (cs.map Cm.law).length = cs.length := List.length_map ..
    refine ⟨Nat.zero_le _, fun F0 hF0 => ⟨_, rfl, _, (dv.same (same_new hF0)).lenL, _, rfl, by omega, by omega, ?_⟩⟩
    rw [show (((cs.map Cm.law).length : Nat) : Int).toNat = cs.length from ll]
    have fresh_ : ∀ F, H F = none → ∀ b, (Mu b ∨ b = F) → Mu b ∨ H b = none := fun F n b m => m.imp id fun e => by rw [show b = F from e]; exact n
    refine for_it (walk_range (lo := 0) (n := cs.length)) (fun i σ Hj => ∃ F xs x3 x4 x5, σ = [some v, some u, some (.ref F), x3, x4, x5] ∧ Same H Hj ∧ H F = none ∧ Hj F = some (.lst xs) ∧ Dats (fun b => Mu b ∨ b = F) Hj xs (pairsL p 0 (cs.take i))) ⟨F0, [], _, _, _, rfl, same_new hF0, hF0, upd_same, .nil⟩ (fun _ _ _ _ _ => trivial) ?_ ?_
    · rintro i y σ Hj' Hj hi ⟨F, xs, x3, x4, x5, rfl, sj, nF, hF, rx⟩ ⟨rfl, ey⟩
      obtain rfl : y = V.int (i : Nat) := ey.trans (by show V.int (0 + (i : Nat)) = _; rw [Int.zero_add])
      obtain ⟨d, hd⟩ : ∃ d, cs[i]? = some d := ⟨cs[i], List.getElem?_eq_getElem hi⟩
      obtain ⟨okd, lvd⟩ := ok d (List.mem_of_getElem? hd)
      have wlj := wl.same sj
      have lx : xs.length ≤ 2 * i := by
        rw [rx.length]
        refine Nat.le_trans (pairsL_len _ _ _) (Nat.mul_le_mul_left _ ?_)
        rw [List.length_take]
        exact Nat.min_le_left _ _
      have iB : i < 10 := by omega
      refine ⟨_, rfl, .inl ⟨rfl, _, SqL.of hF⟩, ?_⟩
      have wlF : Wl (fun b => Mu b ∨ b = F) Hj := fun b m z => m.elim (fun m => wlj b m z) fun e => by
        rw [show b = F from e, hF] at z
        cases z
      have dvF : Dat (fun b => Mu b ∨ b = F) Hj v (.list (cs.map Cm.law)) := (dv.grow (fresh_ F nF)).same sj
      have duF : Dat (fun b => Mu b ∨ b = F) Hj u (pathD p) := (du.grow (fresh_ F nF)).same sj
      refine ⟨_, rfl, _, rfl, (by show 1 ≤ sizeLine; decide), fun t1 nt1 => ?_⟩
      have s1 := same_new (o := .tup [V.int (i : Nat)]) nt1
      refine cat_path (K := K) (p := p) (r := [(i : Nat)]) (wlF.same s1) (duF.same s1) (.tup (wlF.new nt1) upd_same (.cons (.int _) .nil)) (by simp only [List.length_singleton]; omega) (by simp) fun z1 H2 s2 d2 => ?_
      have s12 := s1.trans s2
      refine ⟨_, rfl, _, rfl, (fun b => Mu b ∨ b = F), _, d.law, i, dvF.same s12, rfl, ?_, fun z2 dz => ?_⟩
      · show (cs.map Cm.law)[i]? = some d.law
        rw [List.getElem?_map, hd]
        rfl
      refine ⟨by show 2 ≤ sizeLine; decide, fun t2 nt2 => ⟨F, xs, _, rfl, rfl, (s12.trans (same_new nt2)) _ _ hF, Nat.lt_of_lt_of_le (by omega : xs.length < 100) (by decide), ?_⟩⟩
      have s3 := s12.trans (same_new (o := .tup [z1, z2]) nt2)
      have dpair : Dat (fun b => Mu b ∨ b = F) (upd H2 t2 (.tup [z1, z2])) (.ref t2) (pairD (p ++ [((i : Nat) : Int)]) d.law) := .tup ((wlF.same s12).new nt2) upd_same (.cons (d2.same (same_new nt2)) (.cons (dz.same (same_new nt2)) .nil))
      have rx3 := rx.same s3
      have dv3 := dvF.same s3
      have du3 := duF.same s3
      have wl3 := wlF.same s3
      generalize upd H2 t2 (.tup [z1, z2]) = H3 at s3 dpair rx3 dv3 du3 wl3 ⊢
      have kF : Kp (fun b => Mu b ∨ b = F) H3 (upd H3 F (.lst (xs ++ [.ref t2]))) := kp_upd (.inr rfl)
      have rx4 : Dats (fun b => Mu b ∨ b = F) (upd H3 F (.lst (xs ++ [.ref t2]))) (xs ++ [.ref t2]) (pairsL p 0 (cs.take i) ++ [pairD (p ++ [((i : Nat) : Int)]) d.law]) := (rx3.app (.cons dpair .nil)).keep kF
      have hF4 : upd H3 F (.lst (xs ++ [.ref t2])) F = some (.lst (xs ++ [.ref t2])) := upd_same
      have s4 : Same H (upd H3 F (.lst (xs ++ [.ref t2]))) := fun b o eb => by
        rw [upd_ne (ne_of_none eb nF)]
        exact s3 _ _ (sj _ _ eb)
      have dv4 := dv3.keep kF
      have du4 := du3.keep kF
      have wl4 := wl3.kp kF
      generalize upd H3 F (.lst (xs ++ [.ref t2])) = H4 at kF rx4 hF4 s4 dv4 du4 wl4 ⊢
      obtain ⟨a, el, hw⟩ := d.law_eq
      obtain ⟨bs, hbs, lbs, eb, ec⟩ := d.law_blk okd el
      refine ⟨_, rfl, _, rfl, (fun b => Mu b ∨ b = F), _, d.law, i, dv4, rfl, ?_, fun z5 d5 => ?_⟩
      · show (cs.map Cm.law)[i]? = some d.law
        rw [List.getElem?_map, hd]
        rfl
      rw [el] at d5
      refine ⟨_, z5, d.w, a, rfl, wl4, d5, hw, fun p8 H8 s8 d8 n8 => ?_⟩
      obtain ⟨_, xs8, e8, m8, h8, r8⟩ := d8.asLst
      cases e8
      have l8 : xs8.length = bs.length := by rw [r8.length, eb, List.length_map]
      have nn : (blk d.w a).length = bs.length := by rw [eb, List.length_map]
      refine ⟨_, rfl, _, d8.lenL, _, rfl, by omega, by omega, ?_⟩
      rw [show (((blk d.w a).length : Nat) : Int).toNat = bs.length from nn]
      have acc0 : (pairsL p 0 (cs.take i) ++ [pairD (p ++ [((i : Nat) : Int)]) d.law]) = pairsL p 0 (cs.take i) ++ (pairD (p ++ [((i : Nat) : Int)]) d.law :: ((bs.take 0).flatMap fun b => pairsL (p ++ [((i : Nat) : Int)] ++ [0]) 0 [b])) := by simp
      refine for_it (walk_range (lo := 0) (n := bs.length)) (fun j σ Hk => ∃ F ys y5, σ = [some v, some u, some (.ref F), some (.int (i : Nat)), some (.ref p8), y5] ∧ Same H8 Hk ∧ (Hk F = some (.lst ys)) ∧ H F = none ∧ Dats (fun b => Mu b ∨ b = F) Hk ys (pairsL p 0 (cs.take i) ++ (pairD (p ++ [((i : Nat) : Int)]) d.law :: ((bs.take j).flatMap fun b => pairsL (p ++ [((i : Nat) : Int)] ++ [0]) 0 [b])))) ⟨F, _, _, rfl, .refl _, s8 _ _ hF4, nF, by rw [← acc0]; exact rx4.same s8⟩ (fun _ _ _ _ _ => trivial) ?_ ?_
      · rintro j y σ Hk' Hk hj ⟨F2, ys, y5, rfl, sk, hF2, nF2, ry⟩ ⟨rfl, ey⟩
        obtain rfl : y = V.int (j : Nat) := ey.trans (by show V.int (0 + (j : Nat)) = _; rw [Int.zero_add])
        obtain ⟨b, hb⟩ : ∃ b, bs[j]? = some b := ⟨bs[j], List.getElem?_eq_getElem hj⟩
        have j0 : j = 0 := by omega
        subst j0
        obtain ⟨okb, lvb⟩ := hbs b (List.mem_of_getElem? hb)
        have sHk : Same H Hk := (s4.trans s8).trans sk
        have wlk := wl.same sHk
        have duk : Dat Mu Hk u (pathD p) := du.same sHk
        have d8k : Dat Mu Hk (.ref p8) (.list (blk d.w a)) := (Dat.lst m8 h8 r8 |>.less fun b m => .inl m).same sk
        rw [eb] at d8k
        refine ⟨_, rfl, _, rfl, _, rfl, Mu, _, .list [b.law], 0, d8k, rfl, ?_, fun z6 d6 => ?_⟩
        · show (bs.map fun b => PyData.list [b.law])[0]? = some (.list [b.law])
          rw [List.getElem?_map, hb]
          rfl
        refine ⟨_, rfl, _, rfl, _, rfl, (by show 2 ≤ sizeLine; decide), fun t5 nt5 => ?_⟩
        have s9 := same_new (o := .tup [V.int (i : Nat), V.int ((0 : Nat) : Int)]) nt5
        refine cat_path (K := K) (p := p) (r := [((i : Nat) : Int), ((0 : Nat) : Int)]) (wlk.same s9) (duk.same s9) (.tup (wlk.new nt5) upd_same (.cons (.int _) (.cons (.int _) .nil))) (by simp only [List.length_cons, List.length_nil]; omega) (by simp) fun z7 H9 s10 d7 => ?_
        have s910 := s9.trans s10
        have lvp : 1 ≤ b.lv := by cases b <;> simp [Cm.lv]
        refine ⟨Mu, z6, z7, [b], p ++ [((i : Nat) : Int), ((0 : Nat) : Int)], rfl, by omega, wlk.same s910, d6.same s910, d7, fun e he => by rw [List.mem_singleton.mp he]; exact ⟨okb, by omega⟩, by simp only [List.length_append, List.length_cons, List.length_nil]; omega, (by show 1 ≤ 10; decide), fun q9 H10 s11 d9 n9 => ?_⟩
        obtain ⟨_, zs, e9, m9, h9, r9⟩ := d9.asLst
        cases e9
        have sk10 := s910.trans s11
        have lys : ys.length ≤ 30 := by
          rw [ry.length]
          simp only [List.length_append, List.length_cons, List.take_zero, List.flatMap_nil, List.length_nil]
          have h1 := pairsL_len p 0 (cs.take i)
          have h2 : (cs.take i).length ≤ i := by
            rw [List.length_take]
            exact Nat.min_le_left _ _
          omega
        have lzs : zs.length ≤ 2 := by
          rw [r9.length]
          exact pairsL_len _ 0 [b]
        refine ⟨F2, q9, ys, zs, rfl, rfl, sk10 _ _ hF2, h9, Nat.le_trans (by omega : _ ≤ 100) (by decide), fun F3 n3 => ?_⟩
        have s12' := same_new (o := .lst (ys ++ zs)) n3
        have nF3 : H F3 = none := (sHk.trans sk10).free n3
        have g3 : ∀ b, (Mu b ∨ b = F3) → Mu b ∨ H10 b = none := fun b m => m.imp id fun e => by rw [show b = F3 from e]; exact n3
        refine ⟨F3, _, _, rfl, (sk.trans sk10).trans s12', upd_same, nF3, ?_⟩
        have ryM : Dats Mu H10 ys _ := (ry.less (Mv := Mu) fun b m => .inl m).same sk10
        have both := ((ryM.app r9).grow g3).same s12'
        have eB : bs = [b] := by
          match bs, lbs, hb with
          | [b'], _, hb => rw [Option.some.inj hb]
        rw [eB]
        have e3 : p ++ [((i : Nat) : Int), ((0 : Nat) : Int)] = p ++ [((i : Nat) : Int)] ++ [0] := by simp
        rw [e3] at both
        simpa using both
      · rintro σ Hk ⟨F2, ys, y5, rfl, sk, hF2, nF2, ry⟩
        rw [List.take_length, ← ec p (i : Nat)] at ry
        refine ⟨F2, ys, _, _, _, rfl, (s4.trans s8).trans sk, nF2, hF2, ?_⟩
        rw [take_succ hd, pairsL_app]
        have li : (cs.take i).length = i := by
          rw [List.length_take]
          omega
        rw [li, Int.zero_add, show pairsL p (i : Nat) [d] = pairL p (i : Nat) d from List.append_nil _]
        exact ry
    · rintro σ Hj ⟨F, xs, x3, x4, x5, rfl, sj, nF, hF, rx⟩
      rw [List.take_length] at rx
      exact ⟨_, rfl, q F Hj sj (.lst (wl.new nF) hF (rx.less fun b m => .inl m)) nF⟩
end
end AG
namespace AG
open PySem PySem.Spec PyProof.Rows L2
theorem pairsL_ok (p : List Int) : ∀ (i : Int) (cs : List Cm), (∀ e ∈ pairsL p i cs, PairOk e) ∧ (pairsL p i cs).flatMap recD = recs cs
  | _, [] => ⟨fun _ h => (List.not_mem_nil h).elim, rfl⟩
  | i, .one s :: r => by
    obtain ⟨h1, h2⟩ := pairsL_ok p (i + 1) r
    obtain ⟨a1, a2⟩ := sc_pair (p ++ [i]) s
    refine ⟨fun e he => ?_, ?_⟩
    · rcases List.mem_cons.mp he with z | z
      · rw [z]
        exact a1
      · exact h1 e z
    · show (pairD (p ++ [i]) s.d :: pairsL p (i + 1) r).flatMap recD = s.rcl ++ recs r
      rw [List.flatMap_cons, h2, a2]
  | i, .att s :: r => by
    obtain ⟨h1, h2⟩ := pairsL_ok p (i + 1) r
    obtain ⟨a1, a2⟩ := sc_pair (p ++ [i] ++ [0] ++ [0]) s
    obtain ⟨b1, b2⟩ := try_pair (p ++ [i]) [s.d]
    refine ⟨fun e he => ?_, ?_⟩
    · rcases List.mem_cons.mp he with z | z
      · rw [z]
        exact b1
      · rcases List.mem_cons.mp z with z | z
        · rw [z]
          exact a1
        · exact h1 e z
    · show (pairD (p ++ [i]) (.tuple [.str "try", .list [s.d]]) :: pairD (p ++ [i] ++ [0] ++ [0]) s.d :: pairsL p (i + 1) r).flatMap recD = s.rcl ++ recs r
      rw [List.flatMap_cons, List.flatMap_cons, h2, a2, b2]
      rfl
section
variable {P : Program} {w : World} {K : PySem.W.Frag} {mg : Str → Option Value} {base : Heap} {c : Cs}
/-! ### _law_recalled -/
def spLRec : Sp := fun vs H Q _ => ∃ (Mu : Mut1) (v : V) (cs : List Cm), vs = [v] ∧ Wl Mu H ∧ Dat Mu H v (.list (cs.map Cm.law)) ∧ (∀ d ∈ cs, d.ok) ∧ cs.length ≤ 8 ∧ ∀ p H', Same H H' → Dat Mu H' (.ref p) (.list ((uniq (recs cs)).map PyData.str)) → H p = none → Q (.ref p) H'
theorem sc__law_recalled : FnScope ["_law_commands", "_law_path", "_law_command"] ["_law_commands"] (defScope s__law_recalled) := ⟨rfl, rfl, rfl, by decide +kernel, rfl, by decide +kernel, by decide +kernel⟩
theorem ok__law_recalled (T : Txt w K mg c) : Def P w K mg base CX0 "_law_recalled" ["_law_commands"] 5 spLRec := by
  refine T.d__law_recalled.def_ sc__law_recalled (fun vs H Q E ⟨_, _, _, e, _⟩ => by rw [e]; rfl) (fun _ _ _ _ _ _ us hl => match us, hl with | [_], _ => rfl) fun f cdv A outer s H vs Q E hr h => ?_
  obtain ⟨Mu, v, cs, rfl, wl, dv, ok, hl, q⟩ := h
  refine ⟨_, PSs.nox (pss_one (ps_ret (dcall (ok__law_unlike T) hr (by decide) pass0 (pa_cons (pe_lc (own := [("_law_path", 1), ("_law_command", 2)]) (g := gTup K 2 (gCons (gName 1) (gCons (gName 2) gNil))) rfl sc__law_recalled.nd (pi_list (dcall (ok__law_paths T 2) hr (by decide) pass0 (pa_cons (pv 0) (pa_cons (pe_tup pa_nil) pa_nil)))) (blkOk_by (N := ["_law_commands", "_law_path", "_law_command"]) (sc := (defScope s__law_recalled)) (by decide +kernel)) (fun _ _ _ _ _ => (pg_tup rfl (pgs_cons (pg_name (i := 1) sc__law_recalled.nd rfl (Or.inl rfl)) (pgs_cons (pg_name (i := 2) sc__law_recalled.nd rfl (Or.inl rfl)) pgs_nil)))) (fun _ _ _ _ _ => (pts_one (pt_cmpR op_eqC (pe_ix ix_dat (pv 2) pe_int (fun _ _ => rfl)) pe_str (nomark _)))) (fun _ _ _ _ _ => (pe_ix ix_dat (pv 2) pe_int (fun _ _ => rfl)))) pa_nil)))), ?_⟩
  refine ⟨_, rfl, Nat.zero_le _, fun p0 n0 => ?_⟩
  have s1 := same_new (o := .tup []) n0
  refine ⟨Mu, v, .ref p0, cs, [], rfl, by decide, wl.same s1, dv.same s1, .tup (wl.new n0) upd_same .nil, fun d hd => ⟨ok d hd, d.lv_le⟩, by decide, by omega, fun p2 H2 s2 d2 n2 => ?_⟩
  obtain ⟨_, xs, e2, m2, h2, r2⟩ := d2.asLst
  cases e2
  have wl2 := (wl.same s1).same s2
  obtain ⟨pok, pre⟩ := pairsL_ok [] 0 cs
  have lx : xs.length ≤ 16 := by
    rw [r2.length]
    have := pairsL_len [] 0 cs
    omega
  refine ⟨p2, rfl, ⟨xs, SqL.of h2⟩, fun D hD => ?_⟩
  have nD : p2 ≠ D := ne_of_none h2 hD
  refine lc_dat (n := xs.length) walk_list (Mc := fun _ => False) (Mu := Mu) (fun _ z => z.elim) wl2 hD (by omega) (fun i => (((pairsL [] 0 cs).take i).flatMap recD).map PyData.str) rfl (fun _ _ => True) trivial (fun _ _ _ _ => trivial) (fun i H k _ => SqL.of (k.at_ _ _ (fun z => z.elim (fun z => z) nD) h2)) ?_ ?_
  · rintro i x Hj' Hj add skip hi kj wlj hDj - ⟨rfl, hx⟩ ha hs
    obtain ⟨e, he, de⟩ := r2.get hx
    obtain ⟨pp, ww, aa, rfl, alt⟩ := (pok e (List.mem_of_getElem? he)).ex
    have g : ∀ b, wi Mu D b → Mu b ∨ H2 b = none := fun b m => m.imp id fun e => by rw [show b = D from e]; exact hD
    have dj : Dat (wi Mu D) Hj x (pairD pp (.tuple [.str ww, aa])) := (de.grow g).keep (kj.wide fun b m => m.elim (fun z => z.elim) .inr)
    obtain ⟨a3, ys, rfl, m3, h3, r3⟩ := dj.asTup
    obtain ⟨y1, y2, rfl⟩ : ∃ y1 y2, ys = [y1, y2] := by
      match ys, r3.length with
      | [y1, y2], _ => exact ⟨y1, y2, rfl⟩
    have dcmd : Dat (wi Mu D) Hj y2 (.tuple [.str ww, aa]) := by
      cases r3 with
      | cons _ t =>
        cases t with
        | cons h _ => exact h
    have et : (((pairsL [] 0 cs).take (i + 1)).flatMap recD) = (((pairsL [] 0 cs).take i).flatMap recD) ++ recD (pairD pp (.tuple [.str ww, aa])) := by
      rw [take_succ he, List.flatMap_append]
      simp
    refine ⟨a3, _, rfl, SqT.of h3, rfl, _, _, rfl, _, _, rfl, rfl, rfl, ?_⟩
    refine ⟨_, rfl, wi Mu D, _, _, 0, dcmd, rfl, rfl, fun z1 dz1 => ?_⟩
    obtain rfl := dz1.asStr
    rcases alt with ⟨x0, rfl, rfl, er⟩ | ⟨nw, er⟩
    · refine ⟨rfl, fun _ => ⟨_, rfl, iteT ⟨_, rfl, wi Mu D, _, _, 1, dcmd, rfl, rfl, fun z2 dz2 => ?_⟩⟩, fun z => absurd rfl z⟩
      exact ha z2 Hj (.str x0) (.refl _) rfl dz2 (by rw [et, er, List.map_append]; rfl) trivial
    · refine ⟨rfl, fun z => absurd (by injection z) nw, fun _ => ⟨_, rfl, iteF (hs Hj (.refl _) rfl (by rw [et, er, List.append_nil]) trivial)⟩⟩
  · rintro H3 ys k3 hy r3 - mD
    have s3 : Same H2 H3 := k3.same fun _ z => z
    have sA := (s1.trans s2).trans s3
    rw [r2.length, List.take_length, pre] at r3
    refine ⟨Mu, .ref D, recs cs, rfl, wl.same sA, .lst mD hy r3, ?_, fun p4 H4 s4 d4 n4 => q p4 H4 (sA.trans s4) d4 (sA.free n4)⟩
    have := recs_len cs
    omega
end
end AG
namespace AG
open PySem PySem.Spec PyProof.Rows L2
section
variable {P : Program} {w : World} {K : PySem.W.Frag} {mg : Str → Option Value} {base : Heap} {c : Cs}
/-! ### _law_states -/
def spLStates : Sp := fun vs H Q _ => ∃ (Mu : Mut1) (v u : V) (rs : List Row) (g : Fm), vs = [v, u] ∧ Wl Mu H ∧ Dat Mu H v (.list (rowsD rs)) ∧ Dat Mu H u g.d ∧ rs.length ≤ 10 ∧ ∀ q H', Same H H' → Dat Mu H' q (states rs g).d → Q q H'
theorem sc__law_states : FnScope ["_law_rows_here", "_law_goal", "_law_found", "_law_name", "_law_formula"] ["_law_rows_here", "_law_goal"] (defScope s__law_states) := ⟨rfl, rfl, rfl, by decide +kernel, rfl, by decide +kernel, by decide +kernel⟩
theorem ok__law_states (T : Txt w K mg c) : Def P w K mg base CX0 "_law_states" ["_law_rows_here", "_law_goal"] 1 spLStates := by
  refine T.d__law_states.def_ sc__law_states (fun vs H Q E ⟨_, _, _, _, _, e, _⟩ => by rw [e]; rfl) (fun _ _ _ _ _ _ us hl => match us, hl with | [_, _], _ => rfl) fun f cdv A outer s H vs Q E hr h => ?_
  obtain ⟨Mu, v, u, rs, g, rfl, wl, dv, du, hl, q⟩ := h
  refine ⟨_, PSs.nox (pss_cons (ps_set (i := 2) sc__law_states.nd rfl (Or.inl rfl) (pv 1))
      (pss_cons (ps_for PassesOwn.never rfl (pi_list (pe_revL (pv 0))) (pg_tup rfl (pgs_cons (pg_name (i := 3) sc__law_states.nd rfl (Or.inl rfl)) (pgs_cons (pg_name (i := 4) sc__law_states.nd rfl (Or.inl rfl)) pgs_nil))) (pss_one (ps_set (i := 2) sc__law_states.nd rfl (Or.inl rfl) (pe_tup (pa_cons pe_str (pa_cons (pv 4) (pa_cons (pv 2) pa_nil)))))))
      (pss_one (ps_ret (pv 2))))), ?_⟩
  obtain ⟨a0, xs0, rfl, m0, h0, r0⟩ := dv.asLst
  have l0 : xs0.length = rs.length := r0.length.trans (List.length_map ..)
  refine ⟨_, rfl, _, rfl, a0, xs0, rfl, SqL.of h0, fun p np => ⟨p, rfl, ⟨_, SqL.of upd_same⟩, ?_⟩⟩
  have s1 : Same H (upd H p (.lst xs0.reverse)) := same_new np
  refine for_it walk_list (fun i σ H2 => Same (upd H p (.lst xs0.reverse)) H2 ∧ ∃ x3 x4 y, σ = [some (V.ref a0), some u, some y, x3, x4] ∧ Dat Mu H2 y (states (rs.drop (rs.length - i)) g).d) ⟨.refl _, _, _, u, rfl, ?_⟩ (fun i σ H2 _ ⟨s2, _⟩ => SqL.of (s2 _ _ upd_same)) ?_ ?_
  · rw [Nat.sub_zero, List.drop_length]
    exact du.same s1
  · rintro i x0 σ H2 H2' hi ⟨s2, x3, x4, y, rfl, dy⟩ ⟨rfl, hx⟩
    rw [List.length_reverse] at hi
    rw [List.getElem?_reverse hi] at hx
    obtain ⟨d1, hd1, dx⟩ := r0.get hx
    obtain ⟨k, hk, rfl⟩ := map_at hd1
    have dx2 := dx.same (s1.trans s2)
    obtain ⟨a3, ys, rfl, m3, h3, r3⟩ := dx2.asTup
    obtain ⟨y1, y2, rfl⟩ : ∃ y1 y2, ys = [y1, y2] := by
      match ys, r3.length with
      | [y1, y2], _ => exact ⟨y1, y2, rfl⟩
    have dF : Dat Mu H2' y2 k.2.d := by
      cases r3 with
      | cons _ t =>
        cases t with
        | cons h _ => exact h
    refine ⟨a3, _, rfl, SqT.of h3, rfl, _, _, rfl, _, _, rfl, rfl, ?_⟩
    refine ⟨_, rfl, _, rfl, (by show 3 ≤ sizeLine; decide), fun q1 nq => ⟨s2.trans (same_new nq), _, _, _, rfl, ?_⟩⟩
    have e : rs.drop (rs.length - (i + 1)) = k :: rs.drop (rs.length - i) := by
      have lt : rs.length - (i + 1) < rs.length := by omega
      rw [List.drop_eq_getElem_cons lt]
      have e1 : rs.length - (i + 1) = xs0.length - 1 - i := by omega
      have e2 : rs.length - (i + 1) + 1 = rs.length - i := by omega
      rw [e2]
      congr 1
      have := (List.getElem?_eq_some_iff.mp hk).2
      rw [← this]
      congr 1
    rw [e]
    exact .tup ((wl.same (s1.trans s2)).new nq) upd_same (.cons (.str _) (.cons (dF.same (same_new nq)) (.cons (dy.same (same_new nq)) .nil)))
  · rintro σ H2 ⟨s2, x3, x4, y, rfl, dy⟩
    rw [List.length_reverse, l0, Nat.sub_self, List.drop_zero] at dy
    exact ⟨_, rfl, q y H2 (s1.trans s2) dy⟩
end
end AG
namespace AG
open PySem PySem.Spec PyProof.Rows L2
section
variable {P : Program} {w : World} {K : PySem.W.Frag} {mg : Str → Option Value} {base : Heap} {c : Cs}
/-- an entry as the law holds it -/
theorem Dat.ent {Mu : Mut1} {H : Hp} {v : V} {e : Ent} (h : Dat Mu H v e.lawD) : ∃ a v1 v2 v3, v = .ref a ∧ ¬ Mu a ∧ H a = some (.tup [.str e.name, v1, v2, v3]) ∧ Dat Mu H v1 (.list (rowsD e.rows)) ∧ Dat Mu H v2 e.goal.d ∧ Dat Mu H v3 (.list (e.cmds.map Cm.law)) := by
  obtain ⟨a, xs, rfl, ma, ha, r⟩ := h.asTup
  cases r with
  | cons h0 t =>
    cases t with
    | cons h1 t =>
      cases t with
      | cons h2 t =>
        cases t with
        | cons h3 t =>
          cases t
          obtain rfl := h0.asStr
          exact ⟨a, _, _, _, rfl, ma, ha, h1, h2, h3⟩
/-! ### _law_known -/
def spLKnown : Sp := fun vs H Q _ => ∃ (Mu : Mut1) (v u : V) (es : List Ent) (cs : List Cm), vs = [v, u] ∧ Wl Mu H ∧ Dat Mu H v (lawC es) ∧ Dat Mu H u (.list (cs.map Cm.law)) ∧ (∀ e ∈ es, EntOk e) ∧ (names es).Nodup ∧ es.length ≤ 8 ∧ (∀ d ∈ cs, d.ok) ∧ cs.length ≤ 8 ∧ (∀ y ∈ recs cs, has es y) ∧
  ∀ p H', Same H H' → Fcts Mu H' p (known es cs) → H p = none → Q (.ref p) H'
theorem sc__law_known : FnScope ["_law_content", "_law_commands", "_law_found", "_law_name", "_law_row"] ["_law_content", "_law_commands"] (defScope s__law_known) := ⟨rfl, rfl, rfl, by decide +kernel, rfl, by decide +kernel, by decide +kernel⟩
theorem ok__law_known (T : Txt w K mg c) : Def P w K mg base CX0 "_law_known" ["_law_content", "_law_commands"] 6 spLKnown := by
  refine T.d__law_known.def_ sc__law_known (fun vs H Q E ⟨_, _, _, _, _, e, _⟩ => by rw [e]; rfl) (fun _ _ _ _ _ _ us hl => match us, hl with | [_, _], _ => rfl) fun f cdv A outer s H vs Q E hr h => ?_
  obtain ⟨Mu, v, u, es, cs, rfl, wl, dv, du, ok, nd, hl, okc, hc, cl, q⟩ := h
  have hu := hu_of hr
  refine ⟨_, PSs.nox (pss_cons (ps_set (i := 2) sc__law_known.nd rfl (Or.inl rfl) pe_dnewK)
      (pss_cons (ps_for PassesOwn.never rfl (pi_list (dcall (ok__law_recalled T) hr (by decide) pass0 (pa_cons (pv 1) pa_nil))) (pg_name (i := 3) sc__law_known.nd rfl (Or.inl rfl)) (pss_cons (ps_set (i := 4) sc__law_known.nd rfl (Or.inl rfl) (pe_ix ix_dat (pv 0) (dcall (ok__law_place T) hr (by decide) pass0 (pa_cons (pv 0) (pa_cons (pv 3) pa_nil))) (fun _ _ => rfl)))
      (pss_one (ps_dput hu (pv 2) (pv 3) (dcall (ok__law_states T) hr (by decide) pass0 (pa_cons (pe_ix ix_dat (pv 4) pe_int (fun _ _ => rfl)) (pa_cons (pe_ix ix_dat (pv 4) pe_int (fun _ _ => rfl)) pa_nil))) rfl))))
      (pss_one (ps_ret (pv 2))))), ?_⟩
  intro F hF
  have sF := same_new (o := .dK []) hF
  refine ⟨_, rfl, Mu, u, cs, rfl, wl.same sF, du.same sF, okc, hc, fun p H1 s1 d1 n1 => ?_⟩
  obtain ⟨_, xs, e1, m1, h1, r1⟩ := d1.asLst
  cases e1
  have e2 := dats_strs_eq r1
  subst e2
  have hF1 : H1 F = some (.dK []) := s1 _ _ upd_same
  have s01 : Same H H1 := sF.trans s1
  have npF : p ≠ F := fun z => by
    rw [z, hF1] at h1
    cases h1
  refine ⟨p, rfl, ⟨_, SqL.of h1⟩, ?_⟩
  have gF : ∀ b, wi Mu F b → Mu b ∨ H b = none := fun b m => m.imp id fun e => by rw [show b = F from e]; exact hF
  have lr : (uniq (recs cs)).length ≤ 8 := by
    have h1 := uniq_len (recs cs)
    have h2 := recs_len cs
    omega
  refine for_it walk_list (fun i σ Hj => ∃ x3 x4 kvs, σ = [some v, some u, some (.ref F), x3, x4] ∧ Kp (fun b => b = F) H1 Hj ∧ Hj F = some (.dK kvs) ∧ KvF (wi Mu F) Hj kvs ((known es cs).take i)) ⟨_, _, [], rfl, .refl _, hF1, .nil⟩ (fun i σ Hj _ ⟨_, _, _, _, kj, _⟩ => SqL.of (kj.at_ _ _ npF h1)) ?_ ?_
  · rintro i x0 σ Hj Hj' hi ⟨x3, x4, kvs, rfl, kj, hFj, rF⟩ ⟨rfl, hx0⟩
    obtain ⟨y, hy, rfl⟩ := map_at hx0
    have hhas : has es y := cl y (mem_uniq.mp (List.mem_of_getElem? hy))
    obtain ⟨k, e, hp, hek, hne⟩ := place_has hhas
    have hent : ent? es y = some e := place_ent nd hp hek
    have okE := ok e (List.mem_of_getElem? hek)
    have sHj : Same H Hj' := fun b o eb => kj.at_ b o (ne_of_none eb hF) (s01 b o eb)
    have dvj : Dat (wi Mu F) Hj' v (lawC es) := (dv.grow gF).same sHj
    have wlj : Wl (wi Mu F) Hj' := (wl.same sHj).wi (by rw [hFj]; exact fun z => by cases z)
    refine ⟨_, rfl, _, rfl, _, rfl, wi Mu F, v, es, y, rfl, wlj, dvj, by omega, fun H3 s3 => ?_⟩
    rw [hp]
    refine ⟨wi Mu F, _, e.lawD, k, dvj.same s3, rfl, ?_, fun z dz => ?_⟩
    · show (es.map Ent.lawD)[k]? = some e.lawD
      rw [List.getElem?_map, hek]
      rfl
    refine ⟨_, rfl, wi Mu F, _, _, 1, dz, rfl, rfl, fun z1 dz1 => ⟨_, rfl, wi Mu F, _, _, 2, dz, rfl, rfl, fun z2 dz2 => ?_⟩⟩
    refine ⟨wi Mu F, z1, z2, e.rows, e.goal, rfl, wlj.same s3, dz1, dz2, by have := okE.rl; omega, fun vq H4 s4 dq => ?_⟩
    have ek : (known es cs).take (i + 1) = (known es cs).take i ++ [(y, states e.rows e.goal)] := take_succ (by
      unfold known
      rw [List.getElem?_map, hy]
      show some (y, statesOf es y) = _
      unfold statesOf
      rw [hent])
    have s34 := s3.trans s4
    have nin : valV kvs (Sum.inr y) = none := rF.no (by
      unfold known
      rw [← List.map_take, List.map_map, show (Prod.fst ∘ fun y => (y, statesOf es y)) = id from rfl, List.map_id]
      exact nodup_take (uniq_nodup _) hy)
    have hF4 := s34 _ _ hFj
    have lk : kvs.length < sizeLine := by
      rw [rF.len, List.length_take]
      have h1 := known_len es cs
      exact Nat.lt_of_le_of_lt (Nat.min_le_right _ _) (Nat.lt_of_le_of_lt (by omega : _ ≤ 8) (by decide))
    refine ⟨_, rfl, _, rfl, F, _, rfl, DPut.k (k := Sum.inr y) hF4 lk, ?_⟩
    rw [putK_new _ nin]
    refine ⟨_, _, _, rfl, (kj.trans (.ofSame s34)).trans (kp_upd rfl), upd_same, ?_⟩
    rw [ek]
    exact ((rF.keep (.ofSame s34)).snoc dq).keep (kp_upd (.inr rfl))
  · rintro σ Hj ⟨x3, x4, kvs, rfl, kj, hFj, rF⟩
    have lk : (known es cs).length = (uniq (recs cs)).length := List.length_map ..
    rw [List.length_map, ← lk, List.take_length] at rF
    have sHj : Same H Hj := fun b o eb => kj.at_ b o (ne_of_none eb hF) (s01 b o eb)
    exact ⟨_, rfl, q F Hj sHj ⟨wl.new hF, kvs, hFj, rF.imp fun _ _ d => d.less fun b m => .inl m⟩ hF⟩
end
end AG
namespace AG
open PySem PySem.Spec PyProof.Rows L2
section
variable {P : Program} {w : World} {K : PySem.W.Frag} {mg : Str → Option Value} {base : Heap} {c : Cs}
/-! ### _law_rests -/
def spLRests : Sp := fun vs H Q _ => ∃ (Mu : Mut1) (v : V) (es : List Ent) (x : Str), vs = [v, .str x] ∧ Wl Mu H ∧ Dat Mu H v (lawC es) ∧ (∀ e ∈ es, EntOk e) ∧ (names es).Nodup ∧ Closed es ∧ es.length ≤ 8 ∧ has es x ∧
  ∀ p H', Same H H' → Dat Mu H' (.ref p) (.list ((rests es x).map PyData.str)) → H p = none → Q (.ref p) H'
theorem sc__law_rests : FnScope ["_law_content", "_law_name", "_law_found", "_law_waiting", "_law_at", "_law_late"] ["_law_content", "_law_name"] (defScope s__law_rests) := ⟨rfl, rfl, rfl, by decide +kernel, rfl, by decide +kernel, by decide +kernel⟩
theorem rest_same {H H' : Hp} {p : Addr} {o : HO} (s : Same H H') (n : H p = none) : Same H (upd H' p o) := fun b o eb => by
  rw [upd_ne (ne_of_none eb n)]
  exact s b o eb
theorem ok__law_rests (T : Txt w K mg c) : Def P w K mg base CX0 "_law_rests" ["_law_content", "_law_name"] 6 spLRests := by
  refine T.d__law_rests.def_ sc__law_rests (fun vs H Q E ⟨_, _, _, _, e, _⟩ => by rw [e]; rfl) (fun _ _ _ _ _ _ us hl => match us, hl with | [_, _], _ => rfl) fun f cdv A outer s H vs Q E hr h => ?_
  obtain ⟨Mu, v, es, x, rfl, wl, dv, ok, nd, cl, hl, hx, q⟩ := h
  refine ⟨_, PSs.nox (pss_cons (ps_par (i := 2) (j := 3) rfl sc__law_rests.nd rfl rfl (by decide) rfl rfl (pa_cons (pe_lst pa_nil) (pa_cons (pe_lst (pa_cons (pv 1) pa_nil)) pa_nil)) rfl)
      (pss_cons (ps_while PassesOwn.never (pt_cmpR (op_neD hr.units) (pv 3) (pe_lst pa_nil) (nomark _)) (pss_cons (ps_set (i := 4) sc__law_rests.nd rfl (Or.inl rfl) (dcall (ok__law_place T) hr (by decide) pass0 (pa_cons (pv 0) (pa_cons (pe_bm0 PySem.F.plainAttrs_list PySem.F.slot_list_pop PySem.F.type_list_pop mt_pop (pv 3)) pa_nil))))
      (pss_one (ps_for PassesOwn.never rfl (pi_list (dcall (ok__law_recalled T) hr (by decide) pass0 (pa_cons (pe_ix ix_dat (pe_ix ix_dat (pv 0) (pv 4) (fun _ _ => rfl)) pe_int (fun _ _ => rfl)) pa_nil))) (pg_name (i := 5) sc__law_rests.nd rfl (Or.inl rfl)) (pss_one (ps_if (pt_cmpR op_notInC (pv 5) (pv 2) rfl) (pss_cons (ps_expr (pe_bm PySem.F.plainAttrs_list PySem.F.slot_list_append PySem.F.type_list_append mt_append (pv 2) (pa_cons (pv 5) pa_nil)))
      (pss_one (ps_set (i := 3) sc__law_rests.nd rfl (Or.inl rfl) (pe_op op_cat (pv 3) (pe_ifExp (pt_cmpR op_notN (dcall (ok__law_place T) hr (by decide) pass0 (pa_cons (pv 0) (pa_cons (pv 5) pa_nil))) pe_non (nomark _)) (pe_lst (pa_cons (pv 5) pa_nil)) (pe_lst pa_nil)))))) pss_nil))))))
      (pss_one (ps_ret (pe_callB cr_sortedS (by rfl) T.n_sorted (by decide +kernel) (pa_cons (pe_lc (own := [("_law_late", 5)]) rfl sc__law_rests.nd (pi_list (pv 2)) (blkOk_by (N := ["_law_content", "_law_name", "_law_found", "_law_waiting", "_law_at", "_law_late"]) (sc := (defScope s__law_rests)) (by decide +kernel)) (fun _ _ _ _ _ => (pg_name (i := 5) sc__law_rests.nd rfl (Or.inl rfl))) (fun _ _ _ _ _ => (pts_one (pt_cmpR op_notN (dcall (ok__law_place T) hr (by decide) pass0 (pa_cons (pv 0) (pa_cons (pv 5) pa_nil))) pe_non (nomark _)))) (fun _ _ _ _ _ => (pv 5))) pa_nil)))))), ?_⟩
  refine ⟨Nat.zero_le _, fun F hF => ⟨_, rfl, by show 1 ≤ sizeLine; decide, fun W hW => ⟨_, _, rfl, ?_⟩⟩⟩
  have neFW : F ≠ W := ne_of_none upd_same hW
  have hW0 : H W = none := by
    rw [upd_ne (Ne.symm neFW)] at hW
    exact hW
  have s2 : Same H (upd (upd H F (.lst [])) W (.lst [V.str x])) := rest_same (same_new hF) hW0
  have fF : upd (upd H F (.lst [])) W (.lst [V.str x]) F = some (.lst []) := by rw [upd_ne neFW]; exact upd_same
  refine ⟨fun n σ Hk => ∃ W a x4 x5, n ≤ 9 ∧ σ = [some v, some (V.str x), some (V.ref F), some (V.ref W), x4, x5] ∧ H W = none ∧ F ≠ W ∧ Hk F = some (.lst (a.1.map V.str)) ∧ Hk W = some (.lst (a.2.map V.str)) ∧ Same H Hk ∧ Fnd es a.1 a.2 ∧ a.2.length + (es.length - a.1.length) ≤ n ∧ go es n a = go es (es.length + 1) ([], [x]), ⟨es.length + 1, W, ([], [x]), _, _, Nat.succ_le_succ hl, rfl, hW0, neFW, fF, upd_same, s2, ⟨.nil, fun y hy => (List.not_mem_nil hy).elim, fun y hy => by rw [List.mem_singleton.mp hy]; exact hx⟩, by simp; omega, rfl⟩, ?_⟩
  rintro n σ Hk ⟨W, ⟨f, w⟩, x4, x5, n9, rfl, nW, neFW, hFk, hWk, sk, fnd, me, ge⟩
  have nmW : ∀ y ∈ w, NameOk y := fun y hy => has_ok ok (fnd.wai y hy)
  refine ⟨_, rfl, Nat.zero_le _, fun p np => ⟨.list (w.map PyData.str), .list [], ?_, .lst (SqL.of upd_same) .nil, (strs_lay (n := 0) nmW).shaped, by decide +kernel, _, rfl, ?_⟩⟩
  · exact .lst (SqL.of (same_new np _ _ hWk)) (Dats.dp (Mu := fun _ => False) (dats_strs _))
  have s3 : Same Hk (upd Hk p (.lst [])) := same_new np
  have hF3 := s3 _ _ hFk
  have hW3 := s3 _ _ hWk
  have sk3 := sk.trans s3
  generalize upd Hk p (.lst []) = H3 at s3 hF3 hW3 sk3 ⊢
  rw [eqv_nil]
  rcases List.eq_nil_or_concat w with e0 | ⟨w', y, e0⟩
  · subst e0
    refine iteF ?_
    have lf := fnd.len
    simp only at lf
    refine ⟨_, rfl, F, rfl, ⟨_, SqL.of hF3⟩, fun D hD => ?_⟩
    have nFD : F ≠ D := ne_of_none hF3 hD
    have wl3 := wl.same sk3
    refine lc_dat walk_list (Mc := fun _ => False) (Mu := Mu) (fun _ z => z.elim) wl3 hD (by rw [List.length_map]; simp only; omega) (fun i => (f.take i).map PyData.str) rfl (fun _ _ => True) trivial (fun _ _ _ _ => trivial) (fun i H k _ => SqL.of (k.at_ _ _ (fun z => z.elim (fun z => z) nFD) hF3)) ?_ ?_
    · rintro i x0 Hj' Hj add skip hi kj wlj hDj - ⟨rfl, hx0⟩ ha hs
      obtain ⟨y, hy, rfl⟩ := map_at hx0
      have hhas : has es y := fnd.sub y (List.mem_of_getElem? hy)
      obtain ⟨k, e, hp, hek, hne⟩ := place_has hhas
      have g : ∀ b, wi Mu D b → Mu b ∨ H3 b = none := fun b m => m.imp id fun e => by rw [show b = D from e]; exact hD
      have dvj : Dat (wi Mu D) Hj v (lawC es) := ((dv.same sk3).grow g).keep (kj.wide fun b m => m.elim (fun z => z.elim) .inr)
      refine ⟨rfl, _, rfl, _, rfl, wi Mu D, v, es, y, rfl, wlj, dvj, by omega, fun H4 s4 => ?_⟩
      rw [hp]
      refine ⟨rfl, _, rfl, iteT ⟨_, rfl, ?_⟩⟩
      exact ha (.str y) H4 (.str y) (.of s4) (same_at s4 hDj) (.str y) (by
        show (f.take (i + 1)).map PyData.str = (f.take i).map PyData.str ++ [PyData.str y]
        rw [take_succ hy, List.map_append]
        rfl) trivial
    · rintro H4 ys k4 hy r4 - mD
      have s4 : Same H3 H4 := k4.same fun _ z => z
      rw [List.length_map] at r4
      have ef : f.take (f, ([] : List Str)).1.length = f := List.take_length
      rw [ef] at r4
      have ey := dats_strs_eq r4
      subst ey
      refine ⟨D, f, rfl, SqL.of hy, by show f.length < 64; omega, fun zs p5 ps ss n5 => ?_⟩
      have e3 : zs = rests es x := by
        rw [srt_eq ps ss]
        unfold rests
        rw [← ge, go_nil]
      subst e3
      have sF := sk3.trans (s4.trans (same_new (o := .lst ((rests es x).map V.str)) n5))
      exact q p5 _ sF (.lst ((wl3.same s4).new n5) upd_same (dats_strs _)) ((sk3.trans s4).free n5)
  · have e0 : w = w' ++ [y] := by rw [e0, List.concat_eq_append]
    subst e0
    have ne : ((w' ++ [y]).map PyData.str).isEmpty = false := by simp
    rw [ne]
    refine iteT ?_
    have n0 : n ≠ 0 := fun z => by
      simp only [List.length_append, List.length_singleton] at me
      omega
    obtain ⟨n', rfl⟩ := Nat.exists_eq_succ_of_ne_zero n0
    have hhas : has es y := fnd.wai y (by simp)
    obtain ⟨k, e, hp, hek, hne⟩ := place_has hhas
    have hent : ent? es y = some e := place_ent nd hp hek
    have okE := ok e (List.mem_of_getElem? hek)
    have erc : rclOf es y = e.rcl := by
      unfold rclOf
      rw [hent]
    have lf := fnd.len
    simp only at lf hF3 hW3
    have dl : ((w' ++ [y]).map V.str).dropLast = w'.map V.str := by
      rw [List.map_append]
      exact List.dropLast_concat
    have sk4 : Same H (upd H3 W (.lst (w'.map V.str))) := rest_same sk3 nW
    have hF4 : upd H3 W (.lst (w'.map V.str)) F = some (.lst (f.map V.str)) := by rw [upd_ne neFW]; exact hF3
    have hW4 : upd H3 W (.lst (w'.map V.str)) W = some (.lst (w'.map V.str)) := upd_same
    refine ⟨fun σ' H' => ∃ W a x4 x5, σ' = [some v, some (V.str x), some (V.ref F), some (V.ref W), x4, x5] ∧ H W = none ∧ F ≠ W ∧ H' F = some (.lst (a.1.map V.str)) ∧ H' W = some (.lst (a.2.map V.str)) ∧ Same H H' ∧ Fnd es a.1 a.2 ∧ a.2.length + (es.length - a.1.length) ≤ n' ∧ go es n' a = go es (es.length + 1) ([], [x]), fun σ' H' ⟨W, a, x4, x5, h1, h2, h3, h4, h5, h6, h7, h8, h9⟩ => ⟨n', Nat.lt_succ_self _, W, a, x4, x5, by omega, h1, h2, h3, h4, h5, h6, h7, h8, h9⟩, ?_⟩
    refine ⟨_, rfl, _, rfl, .inl ⟨rfl, _, SqL.of hW3⟩, W, _, .str y, rfl, rfl, hW3, by simp, ?_⟩
    rw [dl]
    generalize upd H3 W (.lst (w'.map V.str)) = H4 at sk4 hF4 hW4 ⊢
    refine ⟨Mu, v, es, y, rfl, wl.same sk4, dv.same sk4, by omega, fun H5 s5 => ?_⟩
    rw [hp]
    have sk5 := sk4.trans s5
    refine ⟨_, rfl, _, rfl, Mu, _, e.lawD, k, dv.same sk5, rfl, ?_, fun z dz => ?_⟩
    · show (es.map Ent.lawD)[k]? = some e.lawD
      rw [List.getElem?_map, hek]
      rfl
    refine ⟨Mu, _, _, 3, dz, rfl, rfl, fun z3 dz3 => ⟨Mu, z3, e.cmds, rfl, wl.same sk5, dz3, okE.co, okE.cl, fun p7 H7 s7 d7 n7 => ?_⟩⟩
    obtain ⟨_, xs7, e7, m7, h7, r7⟩ := d7.asLst
    cases e7
    have e8 : xs7 = e.rcl.map V.str := dats_strs_eq r7
    subst e8
    have sk7 := sk5.trans s7
    have hF7 := s7 _ _ (s5 _ _ hF4)
    have hW7 := s7 _ _ (s5 _ _ hW4)
    have n7F : p7 ≠ F := fun z => by
      rw [z, s5 _ _ hF4] at n7
      cases n7
    have rl8 : e.rcl.length ≤ 8 := by
      have h1 := uniq_len (recs e.cmds)
      have h2 := recs_len e.cmds
      have h3 := okE.cl
      show (uniq (recs e.cmds)).length ≤ 8
      omega
    refine ⟨p7, rfl, ⟨_, SqL.of h7⟩, ?_⟩
    refine for_it walk_list (fun i σ Hj => ∃ W' x5, σ = [some v, some (V.str x), some (V.ref F), some (V.ref W'), some (placeV (some k)), x5] ∧ H W' = none ∧ F ≠ W' ∧ Hj F = some (.lst (((e.rcl.take i).foldl (step es) (f, w')).1.map V.str)) ∧ Hj W' = some (.lst (((e.rcl.take i).foldl (step es) (f, w')).2.map V.str)) ∧ Kp (fun b => b = F) H7 Hj) ⟨W, _, rfl, nW, neFW, hF7, hW7, .refl _⟩ (fun i σ Hj _ ⟨_, _, _, _, _, _, _, kj⟩ => SqL.of (kj.at_ _ _ n7F h7)) ?_ ?_
    · rintro i x0 σ Hj Hj' hi ⟨W', x5, rfl, nW', neFW', hFj, hWj, kj⟩ ⟨rfl, hx0⟩
      obtain ⟨z, hz, rfl⟩ := map_at hx0
      have et : e.rcl.take (i + 1) = e.rcl.take i ++ [z] := take_succ hz
      have fs : (e.rcl.take (i + 1)).foldl (step es) (f, w') = step es ((e.rcl.take i).foldl (step es) (f, w')) z := by
        rw [et, List.foldl_append]
        rfl
      have fndj : Fnd es ((e.rcl.take i).foldl (step es) (f, w')).1 ((e.rcl.take i).foldl (step es) (f, w')).2 := fold_fnd (a := (f, w')) ⟨fnd.nd, fnd.sub, fun y hy => fnd.wai y (by simp [hy])⟩
      have mej := fold_meas (es := es) (xs := e.rcl.take i) (a := (f, w'))
      generalize (e.rcl.take i).foldl (step es) (f, w') = aj at fs hFj hWj fndj mej
      obtain ⟨fj, wj⟩ := aj
      simp only at hFj hWj fndj mej
      have ljf := fndj.len
      have lw : wj.length ≤ 20 := by
        simp only [List.length_append, List.length_singleton] at me
        omega
      have hhz : has es z := by
        have m : z ∈ recs e.cmds := mem_uniq.mp (List.mem_of_getElem? hz)
        exact cl e (List.mem_of_getElem? hek) z m
      obtain ⟨kz, ez, hpz, hekz, _⟩ := place_has hhz
      have skj : Same H Hj' := fun b o eb => kj.at_ b o (ne_of_none eb hF) (sk7 b o eb)
      refine ⟨_, rfl, _, rfl, F, _, rfl, .inl (SqL.of hFj), rfl, flat_strs _, fun e2 => ?_, fun e2 => ?_⟩
      · rw [inV_strs] at e2
        have m := of_decide_eq_true e2
        refine ⟨_, rfl, iteF ⟨W', _, rfl, nW', neFW', ?_, ?_, kj⟩⟩
        · rw [fs]
          unfold step
          rw [if_neg (fun q => q.2 m)]
          exact hFj
        · rw [fs]
          unfold step
          rw [if_neg (fun q => q.2 m)]
          exact hWj
      · rw [inV_strs] at e2
        have m := of_decide_eq_false e2
        refine ⟨_, rfl, iteT ⟨_, rfl, .inl ⟨rfl, _, SqL.of hFj⟩, _, rfl, F, _, _, rfl, rfl, hFj, ?_, ?_⟩⟩
        · rw [List.length_map]
          exact Nat.lt_of_le_of_lt ljf (Nat.lt_of_le_of_lt hl (by decide))
        have sk8 : Same H (upd Hj' F (.lst (fj.map V.str ++ [V.str z]))) := rest_same skj hF
        have hF8 : upd Hj' F (.lst (fj.map V.str ++ [V.str z])) F = some (.lst ((fj ++ [z]).map V.str)) := by
          rw [upd_same, List.map_append]
          rfl
        have hW8 : upd Hj' F (.lst (fj.map V.str ++ [V.str z])) W' = some (.lst (wj.map V.str)) := by
          rw [upd_ne (Ne.symm neFW')]
          exact hWj
        have k8 : Kp (fun b => b = F) H7 (upd Hj' F (.lst (fj.map V.str ++ [V.str z]))) := kj.trans (kp_upd rfl)
        generalize upd Hj' F (.lst (fj.map V.str ++ [V.str z])) = H8 at sk8 hF8 hW8 k8 ⊢
        refine ⟨_, rfl, ?_⟩
        refine ⟨_, rfl, _, rfl, Mu, v, es, z, rfl, wl.same sk8, dv.same sk8, by omega, fun H9 s9 => ?_⟩
        rw [hpz]
        have hF9 := s9 _ _ hF8
        have hW9 := s9 _ _ hW8
        refine ⟨rfl, _, rfl, iteT ⟨_, rfl, (by show 1 ≤ sizeLine; decide), fun p9 n9' => ?_⟩⟩
        have s10 : Same H9 (upd H9 p9 (.lst [V.str z])) := same_new n9'
        have hp10 : upd H9 p9 (.lst [V.str z]) p9 = some (.lst [V.str z]) := upd_same
        have hF10 := s10 _ _ hF9
        have hW10 := s10 _ _ hW9
        have sk10 := (sk8.trans s9).trans s10
        have k10 : Kp (fun b => b = F) H7 (upd H9 p9 (.lst [V.str z])) := k8.trans (.ofSame (s9.trans s10))
        generalize upd H9 p9 (.lst [V.str z]) = H10 at hp10 hF10 hW10 sk10 k10 ⊢
        refine ⟨W', p9, _, _, rfl, rfl, hW10, hp10, ?_, fun W2 nW2 => ⟨W2, _, rfl, sk10.free nW2, ?_, ?_, ?_, k10.trans (.ofSame (same_new nW2))⟩⟩
        · rw [List.length_map]
          exact Nat.le_of_lt (Nat.lt_of_le_of_lt (by show wj.length + 1 ≤ 21; omega) (by decide))
        · exact ne_of_none hF10 nW2
        · rw [fs]
          unfold step
          rw [if_pos ⟨hhz, m⟩, upd_ne (ne_of_none hF10 nW2)]
          exact hF10
        · rw [fs]
          unfold step
          rw [if_pos ⟨hhz, m⟩, upd_same, List.map_append]
          rfl
    · rintro σ Hj ⟨W', x5, rfl, nW', neFW', hFj, hWj, kj⟩
      rw [List.length_map, List.take_length] at hFj hWj
      have skj : Same H Hj := fun b o eb => kj.at_ b o (ne_of_none eb hF) (sk7 b o eb)
      have mej := fold_meas (es := es) (xs := e.rcl) (a := (f, w'))
      refine ⟨W', _, _, _, rfl, nW', neFW', hFj, hWj, skj, fold_fnd (a := (f, w')) ⟨fnd.nd, fnd.sub, fun y hy => fnd.wai y (by simp [hy])⟩, ?_, ?_⟩
      · have lq : ((e.rcl).foldl (step es) (f, w')).1.length ≤ es.length := (fold_fnd (es := es) (xs := e.rcl) (a := (f, w')) ⟨fnd.nd, fnd.sub, fun y hy => fnd.wai y (by simp [hy])⟩).len
        simp only [List.length_append, List.length_singleton] at me mej
        omega
      · rw [← erc, ← go_step]
        exact ge
end
end AG
namespace AG
open PySem PySem.Spec PyProof.Rows L2
/-! ### the law's deeds -/
structure Thing where
  rows : List Row
  goal : Fm
  cmds : List Cm
structure ThingOk (t : Thing) : Prop where
  ro : ∀ r ∈ t.rows, RowOk r
  rl : t.rows.length ≤ 8
  go : t.goal.ok
  gd : t.goal.deep ≤ 3
  co : ∀ d ∈ t.cmds, d.ok
  cl : t.cmds.length ≤ 8
def Thing.d (t : Thing) : PyData := .tuple [.list (rowsD t.rows), t.goal.d, .list (t.cmds.map Cm.law)]
inductive LDeed where
  | set (f : Bool) (x : Str) (i : Nat)
  | drop (x : Str)
def wordOf (f : Bool) : Str := if f = true then "fact" else "script"
def LDeed.d : LDeed → PyData
  | .set f x i => .tuple [.str (wordOf f), .str x, .int (i : Nat)]
  | .drop x => .tuple [.str "drop", .str x]
def LDeed.name : LDeed → Str
  | .set _ x _ => x
  | .drop x => x
def LDeed.deed (st : List Thing) : LDeed → Deed
  | .set f x i => match st[i]? with
    | some t => if f = true then .fact x t.rows t.goal t.cmds else .script x t.cmds
    | none => .drop x
  | .drop x => .drop x
theorem deed_set {st : List Thing} {f : Bool} {x : Str} {i : Nat} {t : Thing} (e : st[i]? = some t) : (LDeed.set f x i).deed st = if f = true then .fact x t.rows t.goal t.cmds else .script x t.cmds := by
  show (match st[i]? with
    | some t => if f = true then Deed.fact x t.rows t.goal t.cmds else Deed.script x t.cmds
    | none => Deed.drop x) = _
  rw [e]
structure LOk (st : List Thing) (ld : LDeed) : Prop where
  nm : NameOk ld.name
  ix : ∀ f x i, ld = .set f x i → i < st.length
theorem LOk.deed {st : List Thing} {ld : LDeed} (h : LOk st ld) (k : ∀ t ∈ st, ThingOk t) : DeedOk (ld.deed st) := by
  cases ld with
  | drop x => exact h.nm
  | set f x i =>
    have hi := h.ix f x i rfl
    have e : st[i]? = some st[i] := List.getElem?_eq_getElem hi
    have t := k st[i] (List.getElem_mem hi)
    rw [deed_set e]
    cases f
    · exact ⟨h.nm, t.co, t.cl⟩
    · exact ⟨h.nm, t.ro, t.rl, t.go, t.gd, t.co, t.cl⟩
def Er.d : Er → PyData
  | .circ x => .tuple [.str "Circular", .tuple [.str x]]
  | .inuse x => .tuple [.str "NameInUse", .tuple [.str x]]
  | .full n => .tuple [.str "Full", .tuple [.int n]]
  | .unknown x => .tuple [.str "UnknownName", .tuple [.str x]]
  | .nothing => .tuple [.str "NothingLeft", .tuple []]
def okD : PyData := .tuple [.str "", .none]
def dueD {α : Type} : Er ⊕ α → PyData
  | .inl e => e.d
  | .inr _ => okD
def conE (es : List Ent) : Er ⊕ List Ent → List Ent
  | .inl _ => es
  | .inr l => l
/-! ### places -/
theorem cutG_take {α : Type} (xs : List α) (k : Nat) : cutG xs none (some (k : Int)) = xs.take k := by
  unfold cutG
  rw [HT.sIx_none, HT.sIx_nat, List.drop_zero, Nat.sub_zero]
  by_cases h : k ≤ xs.length
  · rw [Nat.min_eq_left h]
  · rw [Nat.min_eq_right (by omega), List.take_length, List.take_of_length_le (by omega)]
theorem cutG_drop {α : Type} (xs : List α) (k : Nat) : cutG xs (some (k : Int)) none = xs.drop k := by
  unfold cutG
  rw [HT.sIx_none, HT.sIx_nat]
  by_cases h : k ≤ xs.length
  · rw [Nat.min_eq_left h, List.take_of_length_le (by rw [List.length_drop]; exact Nat.le_refl _)]
  · rw [Nat.min_eq_right (by omega), List.drop_length, List.drop_of_length_le (by omega)]
    simp
theorem ent_split {es : List Ent} {k : Nat} {e : Ent} (nd : (names es).Nodup) (h : es[k]? = some e) : es = es.take k ++ e :: es.drop (k + 1) ∧ (∀ f ∈ es.take k, f.name ≠ e.name) ∧ ∀ f ∈ es.drop (k + 1), f.name ≠ e.name := by
  have sp : es = es.take k ++ e :: es.drop (k + 1) := by
    obtain ⟨lt, q⟩ := List.getElem?_eq_some_iff.mp h
    rw [← q, List.getElem_cons_drop, List.take_append_drop]
  have nd2 : (names (es.take k ++ e :: es.drop (k + 1))).Nodup := by
    rw [← sp]
    exact nd
  unfold names at nd2
  rw [List.map_append, List.map_cons] at nd2
  obtain ⟨_, n2, n3⟩ := List.nodup_append.mp nd2
  refine ⟨sp, fun f hf z => ?_, fun f hf z => ?_⟩
  · exact n3 f.name (List.mem_map.mpr ⟨f, hf, rfl⟩) e.name (List.mem_cons_self ..) z
  · exact (List.nodup_cons.mp n2).1 (z ▸ List.mem_map.mpr ⟨f, hf, rfl⟩)
theorem setE_at {es : List Ent} {k : Nat} {e0 e : Ent} (nd : (names es).Nodup) (h : es[k]? = some e0) (n : e0.name = e.name) : setE es e = es.take k ++ [e] ++ es.drop (k + 1) := by
  obtain ⟨sp, a, b⟩ := ent_split nd h
  have hh : has es e.name := by
    rw [← n]
    exact List.mem_map.mpr ⟨e0, List.mem_of_getElem? h, rfl⟩
  unfold setE
  rw [if_pos hh]
  have m : ∀ l : List Ent, (∀ f ∈ l, f.name ≠ e0.name) → l.map (fun f => if f.name = e.name then e else f) = l := fun l hl => by
    have := List.map_congr_left (f := fun f => if f.name = e.name then e else f) (g := id) (l := l) fun f hf => if_neg fun z => hl f hf (z.trans n.symm)
    rw [this, List.map_id]
  conv => lhs; rw [sp]
  rw [List.map_append, List.map_cons, m _ a, m _ b, if_pos n, List.append_assoc]
  rfl
theorem setE_new {es : List Ent} {e : Ent} (h : ¬ has es e.name) : setE es e = es ++ [e] := by
  unfold setE
  rw [if_neg h]
theorem dropE_at {es : List Ent} {k : Nat} {e : Ent} (nd : (names es).Nodup) (h : es[k]? = some e) : dropE es e.name = es.take k ++ es.drop (k + 1) := by
  obtain ⟨sp, a, b⟩ := ent_split nd h
  have m : ∀ l : List Ent, (∀ f ∈ l, f.name ≠ e.name) → l.filter (fun f => decide (f.name ≠ e.name)) = l := fun l hl => List.filter_eq_self.mpr fun f hf => decide_eq_true (hl f hf)
  unfold dropE
  conv => lhs; rw [sp]
  rw [List.filter_append, List.filter_cons_of_neg (by simp), m _ a, m _ b]
theorem closed_set {es : List Ent} {e : Ent} (c : Closed es) (h : lost (setE es e) e.rcl = none) : Closed (setE es e) := fun g hg y hy => by
  rcases mem_setE hg with m | m
  · exact has_setE.mpr (.inl (c g m y hy))
  · subst m
    exact lost_take h y (mem_uniq_recs.mpr hy)
theorem rclOf_set {es : List Ent} {e : Ent} : rclOf (setE es e) e.name = e.rcl := by
  unfold rclOf
  rw [ent_set]
/-- those that are not there -/
def missing (es : List Ent) (xs : List Str) : List Str := xs.filter fun y => !decide (has es y)
theorem lost_missing (es : List Ent) (xs : List Str) : lost es xs = (missing es xs).head? := by
  unfold lost missing
  rw [List.head?_filter]
theorem missing_take {es : List Ent} {xs : List Str} {i : Nat} {y : Str} (h : xs[i]? = some y) : missing es (xs.take (i + 1)) = if has es y then missing es (xs.take i) else missing es (xs.take i) ++ [y] := by
  unfold missing
  rw [take_succ h, List.filter_append]
  by_cases q : has es y
  · rw [if_pos q, List.filter_cons_of_neg (by simpa using q)]
    simp
  · rw [if_neg q, List.filter_cons_of_pos (by simpa using q)]
    rfl
end AG
namespace AG
open PySem PySem.Spec PyProof.Rows L2
section
variable {P : Program} {w : World} {K : PySem.W.Frag} {mg : Str → Option Value} {base : Heap} {c : Cs}
theorem nx_of {n : L2.St → Hp → Prop} {r : VK} {b c : L2.St → Hp → Prop} {σ : L2.St} {H : Hp} (h : n σ H) : (L2.Ends.mk n r b c).nx σ H := h
theorem tup_at {Mu : Mut1} {H : Hp} {xs : List V} {ds : List PyData} {p : Addr} (w : Wl Mu H) (r : Dats Mu H xs ds) (n : H p = none) : Same H (upd H p (.tup xs)) ∧ Dat Mu (upd H p (.tup xs)) (.ref p) (.tuple ds) := ⟨same_new n, .tup (w.new n) upd_same (r.same (same_new n))⟩
theorem lst_at {Mu : Mut1} {H : Hp} {xs : List V} {ds : List PyData} {p : Addr} (w : Wl Mu H) (r : Dats Mu H xs ds) (n : H p = none) : Same H (upd H p (.lst xs)) ∧ Dat Mu (upd H p (.lst xs)) (.ref p) (.list ds) := ⟨same_new n, .lst (w.new n) upd_same (r.same (same_new n))⟩
theorem names_ok {es : List Ent} (ok : ∀ e ∈ es, EntOk e) {f : Ent → Bool} {n : Nat} : ∀ x ∈ ((es.take n).filter f).map Ent.name, NameOk x := fun x hx => by
  obtain ⟨e, he, rfl⟩ := List.mem_map.mp hx
  exact (ok e (List.mem_of_mem_take (List.mem_filter.mp he).1)).nm
theorem lawC_at {es : List Ent} {k : Nat} {e : Ent} (h : es[k]? = some e) : (itemsD (lawC es))[k]? = some e.lawD := by
  show (es.map Ent.lawD)[k]? = some e.lawD
  rw [List.getElem?_map, h]
  rfl
theorem users_ok {es : List Ent} (ok : ∀ e ∈ es, EntOk e) {x : Str} : ∀ y ∈ users es x, NameOk y := fun y hy => by
  have m : y ∈ (es.filter (usesB x)).map Ent.name := (srt_perm _).mem_iff.mp hy
  obtain ⟨e, he, rfl⟩ := List.mem_map.mp m
  exact (ok e (List.mem_filter.mp he).1).nm
/-! ### _law_due -/
def spLDue : Sp := fun vs H Q _ => ∃ (Mu : Mut1) (v u z : V) (es : List Ent) (st : List Thing) (ld : LDeed) (lim : Nat), vs = [v, u, z, .int lim] ∧ Wl Mu H ∧ Dat Mu H v (lawC es) ∧ Dat Mu H u ld.d ∧ Dat Mu H z (.list (st.map Thing.d)) ∧ (∀ e ∈ es, EntOk e) ∧ (names es).Nodup ∧ Closed es ∧ es.length ≤ 7 ∧ (∀ t ∈ st, ThingOk t) ∧ LOk st ld ∧
  ∀ q H', Same H H' → Dat Mu H' q (.tuple [dueD (after es lim (ld.deed st)), lawC (conE es (after es lim (ld.deed st)))]) → Q q H'
theorem sc__law_due : FnScope ["_law_content", "_law_deed_here", "_law_stock", "_law_most", "_law_word", "_law_name", "_law_at", "_law_row", "_law_users", "_law_rows_here", "_law_goal", "_law_commands", "_law_late", "_law_later", "_law_other", "_law_missing"] ["_law_content", "_law_deed_here", "_law_stock", "_law_most"] (defScope s__law_due) := ⟨rfl, rfl, rfl, by decide +kernel, rfl, by decide +kernel, by decide +kernel⟩
theorem ok__law_due (T : Txt w K mg c) : Def P w K mg base CX0 "_law_due" ["_law_content", "_law_deed_here", "_law_stock", "_law_most"] 7 spLDue := by
  refine T.d__law_due.def_ sc__law_due (fun vs H Q E ⟨_, _, _, _, _, _, _, _, e, _⟩ => by rw [e]; rfl) (fun _ _ _ _ _ _ us hl => match us, hl with | [_, _, _, _], _ => rfl) fun f cdv A outer s H vs Q E hr h => ?_
  obtain ⟨Mu, v, u, z, es, st, ld, lim, rfl, wl, dv, du, dz, ok, nd, cl, hl, tok, lok, q⟩ := h
  refine ⟨_, PSs.nox (pss_cons (ps_asg (pe_tup (pa_cons (pe_ix ix_dat (pv 1) pe_int (fun _ _ => rfl)) (pa_cons (pe_ix ix_dat (pv 1) pe_int (fun _ _ => rfl)) (pa_cons (dcall (ok__law_place T) hr (by decide) pass0 (pa_cons (pv 0) (pa_cons (pe_ix ix_dat (pv 1) pe_int (fun _ _ => rfl)) pa_nil))) pa_nil)))) (pg_tup rfl (pgs_cons (pg_name (i := 4) sc__law_due.nd rfl (Or.inl rfl)) (pgs_cons (pg_name (i := 5) sc__law_due.nd rfl (Or.inr rfl)) (pgs_cons (pg_name (i := 6) sc__law_due.nd rfl (Or.inl rfl)) pgs_nil)))))
      (pss_cons (ps_if (PW.pt (pw_and (pt_cmpR op_eqC (pv 4) pe_str (nomark _)) (pw_and (pt_cmpR op_isN (pv 6) pe_non (nomark _)) (pw_and1 (pt_cmpR op_ge (len1 T.n_len (pa_cons (pv 0) pa_nil)) (pv 3) (nomark _)))))) (pss_one (ps_ret (pe_tup (pa_cons (pe_tup (pa_cons pe_str (pa_cons (pe_tup (pa_cons (pv 3) pa_nil)) pa_nil))) (pa_cons (pv 0) pa_nil))))) pss_nil)
      (pss_cons (ps_if (PW.pt (pw_and (pt_cmpR op_neC (pv 4) pe_str (nomark _)) (pw_and1 (pt_cmpR op_isN (pv 6) pe_non (nomark _))))) (pss_one (ps_ret (pe_tup (pa_cons (pe_tup (pa_cons pe_str (pa_cons (pe_tup (pa_cons (pv 5) pa_nil)) pa_nil))) (pa_cons (pv 0) pa_nil))))) pss_nil)
      (pss_cons (ps_if (pt_cmpR op_eqC (pv 4) pe_str (nomark _)) (pss_cons (ps_set (i := 8) sc__law_due.nd rfl (Or.inl rfl) (pe_callB cr_sortedS (by rfl) T.n_sorted (by decide +kernel) (pa_cons (pe_lc (own := [("_law_row", 7)]) (tt := tTest (tOp (rInC K false) (tVar 5) (tCall spLRec [] E0 (tCons (tOp rIxD (tVar 7) (tC (.int 3))) tNil)))) rfl sc__law_due.nd (pi_list (pv 0)) (blkOk_by (N := ["_law_content", "_law_deed_here", "_law_stock", "_law_most", "_law_word", "_law_name", "_law_at", "_law_row", "_law_users", "_law_rows_here", "_law_goal", "_law_commands", "_law_late", "_law_later", "_law_other", "_law_missing"]) (sc := (defScope s__law_due)) (by decide +kernel)) (fun _ _ _ _ _ => (pg_name (i := 7) sc__law_due.nd rfl (Or.inl rfl))) (fun _ _ _ _ _ => (pts_one (pt_cmpR op_inC (pv 5) (dcall (ok__law_recalled T) hr (by decide) pass0 (pa_cons (pe_ix ix_dat (pv 7) pe_int (fun _ _ => rfl)) pa_nil)) rfl))) (fun _ _ _ _ _ => (pe_ix ix_dat (pv 7) pe_int (fun _ _ => rfl)))) pa_nil)))
      (pss_cons (ps_if (pt_cmpR (op_neD hr.units) (pv 8) (pe_lst pa_nil) (nomark _)) (pss_one (ps_ret (pe_tup (pa_cons (pe_tup (pa_cons pe_str (pa_cons (pe_tup (pa_cons (pe_ix ix_dat (pv 8) pe_int (fun _ _ => rfl)) pa_nil)) pa_nil))) (pa_cons (pv 0) pa_nil))))) pss_nil)
      (pss_one (ps_ret (pe_tup (pa_cons (pe_tup (pa_cons pe_str (pa_cons pe_non pa_nil))) (pa_cons (pe_op op_cat (pe_slice sl_lstD (pv 0) po_none (po_some (pv 6))) (pe_slice sl_lstD (pv 0) (po_some (pe_op op_add (pv 6) pe_int)) po_none)) pa_nil))))))) pss_nil)
      (pss_cons (ps_asg (pe_ix ix_dat (pv 2) (pe_ix ix_dat (pv 1) pe_int (fun _ _ => rfl)) (fun _ _ => rfl)) (pg_tup rfl (pgs_cons (pg_name (i := 9) sc__law_due.nd rfl (Or.inl rfl)) (pgs_cons (pg_name (i := 10) sc__law_due.nd rfl (Or.inl rfl)) (pgs_cons (pg_name (i := 11) sc__law_due.nd rfl (Or.inl rfl)) pgs_nil)))))
      (pss_cons (ps_set (i := 12) sc__law_due.nd rfl (Or.inl rfl) (pe_ifExp (pt_cmpR op_eqC (pv 4) pe_str (nomark _)) (pe_tup (pa_cons (pv 5) (pa_cons (pv 9) (pa_cons (pv 10) (pa_cons (pv 11) pa_nil))))) (pe_op op_catA (pe_slice sl_tupD (pe_ix ix_dat (pv 0) (pv 6) (fun _ _ => rfl)) po_none (po_some pe_int)) (pe_tup (pa_cons (pv 11) pa_nil)))))
      (pss_cons (ps_set (i := 13) sc__law_due.nd rfl (Or.inr rfl) (pe_ifExp (pt_cmpR op_isN (pv 6) pe_non (nomark _)) (pe_op op_cat (pv 0) (pe_lst (pa_cons (pv 12) pa_nil))) (pe_op op_cat (pe_op op_cat (pe_slice sl_lstD (pv 0) po_none (po_some (pv 6))) (pe_lst (pa_cons (pv 12) pa_nil))) (pe_slice sl_lstD (pv 0) (po_some (pe_op op_add (pv 6) pe_int)) po_none))))
      (pss_cons (ps_setLc (i := 15) (own := [("_law_other", 14)]) rfl sc__law_due.nd rfl rfl (sw_true rfl rfl rfl (by decide +kernel)) (pi_list (dcall (ok__law_recalled T) hr (by decide) pass0 (pa_cons (pv 11) pa_nil))) (blkOk_by (N := ["_law_content", "_law_deed_here", "_law_stock", "_law_most", "_law_word", "_law_name", "_law_at", "_law_row", "_law_users", "_law_rows_here", "_law_goal", "_law_commands", "_law_late", "_law_later", "_law_other", "_law_missing"]) (sc := (defScope s__law_due)) (by decide +kernel)) (fun _ _ _ _ _ => (pg_name (i := 14) sc__law_due.nd rfl (Or.inl rfl))) (fun _ _ _ _ _ => (pts_one (pt_cmpR op_isN (dcall (ok__law_place T) hr (by decide) pass0 (pa_cons (pv 13) (pa_cons (pv 14) pa_nil))) pe_non (nomark _)))) (fun _ _ _ _ _ => (pv 14)))
      (pss_cons (ps_if (pt_cmpR (op_neD hr.units) (pv 15) (pe_lst pa_nil) (nomark _)) (pss_one (ps_ret (pe_tup (pa_cons (pe_tup (pa_cons pe_str (pa_cons (pe_tup (pa_cons (pe_ix ix_dat (pv 15) pe_int (fun _ _ => rfl)) pa_nil)) pa_nil))) (pa_cons (pv 0) pa_nil))))) pss_nil)
      (pss_cons (ps_if (pt_cmpR op_inC (pv 5) (dcall (ok__law_rests T) hr (by decide) pass0 (pa_cons (pv 13) (pa_cons (pv 5) pa_nil))) rfl) (pss_one (ps_ret (pe_tup (pa_cons (pe_tup (pa_cons pe_str (pa_cons (pe_tup (pa_cons (pv 5) pa_nil)) pa_nil))) (pa_cons (pv 0) pa_nil))))) pss_nil)
      (pss_one (ps_ret (pe_tup (pa_cons (pe_tup (pa_cons pe_str (pa_cons pe_non pa_nil))) (pa_cons (pv 13) pa_nil))))))))))))))), ?_⟩
  have dv0 := dv
  obtain ⟨av, xs, rfl, mav, hav, rv⟩ := dv.asLst
  have lx : xs.length = es.length := rv.length.trans (List.length_map ..)
  cases ld with
  | drop x =>
    have nmx : NameOk x := lok.nm
    refine ⟨_, rfl, Mu, _, .str "drop", 0, du, rfl, rfl, fun z1 d1 => ?_⟩
    obtain rfl := d1.asStr
    refine ⟨_, rfl, Mu, _, .str x, 1, du, rfl, rfl, fun z2 d2 => ?_⟩
    obtain rfl := d2.asStr
    refine ⟨_, rfl, _, rfl, Mu, _, .str x, 1, du, rfl, rfl, fun z3 d3 => ?_⟩
    obtain rfl := d3.asStr
    refine ⟨Mu, _, es, x, rfl, wl, dv0, by omega, fun H1 s1 => ⟨(by show 3 ≤ sizeLine; decide), fun p np => ⟨_, _, rfl, SqT.of upd_same, rfl, _, _, rfl, _, _, rfl, _, _, rfl, rfl, ?_⟩⟩⟩
    have s2 : Same H (upd H1 p (.tup [V.str "drop", .str x, placeV (place es x)])) := s1.trans (same_new np)
    generalize upd H1 p (.tup [V.str "drop", .str x, placeV (place es x)]) = H2 at s2 ⊢
    have wl2 := wl.same s2
    have dv2 := dv0.same s2
    refine ⟨_, rfl, rfl, fun z => absurd (by injection z) (show ¬ ("drop" : Str) = "fact" by decide +kernel), fun _ => ⟨_, rfl, iteF (iteF ?_)⟩⟩
    refine ⟨_, rfl, rfl, fun z => absurd (by injection z) (show ¬ ("drop" : Str) = "fact" by decide +kernel), fun _ => ⟨_, rfl, iteT ?_⟩⟩
    refine ⟨_, rfl, rfl, _, rfl, ?_⟩
    cases hp : place es x with
    | none =>
      have nh := place_none hp
      have ea : after es lim (LDeed.deed st (.drop x)) = .inl (.unknown x) := by
        show after es lim (.drop x) = _
        rw [after_drop, if_neg nh]
      rw [ea] at q
      refine iteT ⟨_, rfl, (by show 1 ≤ sizeLine; decide), fun p1 n1 => ⟨(by show 2 ≤ sizeLine; decide), fun p2 n2 => ⟨_, rfl, (by show 2 ≤ sizeLine; decide), fun p3 n3 => ?_⟩⟩⟩
      obtain ⟨t1, e1⟩ := tup_at wl2 (.cons (.str x) .nil) n1
      obtain ⟨t2, e2⟩ := tup_at (wl2.same t1) (.cons (.str "UnknownName") (.cons e1 .nil)) n2
      obtain ⟨t3, e3⟩ := tup_at ((wl2.same t1).same t2) (.cons e2 (.cons (dv2.same (t1.trans t2)) .nil)) n3
      exact q _ _ (((s2.trans t1).trans t2).trans t3) e3
    | some k =>
      obtain ⟨e, hek, hen⟩ := place_some hp
      have hh : has es x := by
        rw [← hen]
        exact List.mem_map.mpr ⟨e, List.mem_of_getElem? hek, rfl⟩
      refine iteF ?_
      have xs2 := s2 _ _ hav
      refine ⟨_, rfl, rfl, fun _ => ⟨_, rfl, iteT ?_⟩, fun z => absurd rfl z⟩
      refine ⟨_, rfl, av, rfl, ⟨_, SqL.of xs2⟩, fun D hD => ?_⟩
      have nD : av ≠ D := ne_of_none xs2 hD
      refine lc_dat (n := xs.length) walk_list (Mc := fun _ => False) (Mu := Mu) (fun _ z => z.elim) wl2 hD (by omega) (fun i => (((es.take i).filter (usesB x)).map Ent.name).map PyData.str) rfl (fun _ _ => True) trivial (fun _ _ _ _ => trivial) (fun i H k _ => SqL.of (k.at_ _ _ (fun z => z.elim (fun z => z) nD) xs2)) ?_ ?_
      · rintro i x0 Hj' Hj add skip hi kj wlj hDj - ⟨rfl, hx0⟩ ha hs
        obtain ⟨d0, hd0, de⟩ := rv.get hx0
        obtain ⟨e1, he1, rfl⟩ := map_at hd0
        have ok1 := ok e1 (List.mem_of_getElem? he1)
        have g : ∀ b, wi Mu D b → Mu b ∨ H2 b = none := fun b m => m.imp id fun e => by rw [show b = D from e]; exact hD
        have dj : Dat (wi Mu D) Hj x0 e1.lawD := ((de.same s2).grow g).keep (kj.wide fun b m => m.elim (fun z => z.elim) .inr)
        have et : es.take (i + 1) = es.take i ++ [e1] := take_succ he1
        refine ⟨rfl, _, rfl, _, rfl, wi Mu D, _, _, 3, dj, rfl, rfl, fun z3 dz3 => ⟨wi Mu D, z3, e1.cmds, rfl, wlj, dz3, ok1.co, ok1.cl, fun p7 H7 s7 d7 n7 => ?_⟩⟩
        obtain ⟨_, ys, e7, m7, h7, r7⟩ := d7.asLst
        cases e7
        have e8 : ys = e1.rcl.map V.str := dats_strs_eq r7
        subst e8
        have ue : usesB x e1 = decide (x ∈ e1.rcl) := rfl
        refine ⟨_, _, rfl, .inl (SqL.of h7), rfl, flat_strs _, fun z => ?_, fun z => ?_⟩
        · rw [inV_strs, ← ue] at z
          refine ⟨_, rfl, iteT ⟨_, rfl, wi Mu D, _, .str e1.name, 0, dj.same s7, rfl, rfl, fun z4 d4 => ha z4 H7 (.str e1.name) (.of s7) (same_at s7 hDj) d4 ?_ trivial⟩⟩
          show (((es.take (i + 1)).filter (usesB x)).map Ent.name).map PyData.str = _
          rw [et, List.filter_append, List.filter_cons_of_pos z, List.map_append, List.map_append]
          rfl
        · rw [inV_strs, ← ue] at z
          refine ⟨_, rfl, iteF (hs H7 (.of s7) (same_at s7 hDj) ?_ trivial)⟩
          show (((es.take (i + 1)).filter (usesB x)).map Ent.name).map PyData.str = _
          rw [et, List.filter_append, List.filter_cons_of_neg (by rw [z]; exact Bool.false_ne_true)]
          simp
      · rintro H3 ys k3 hy r3 - mD
        have s3 : Same H2 H3 := k3.same fun _ z => z
        have ef : es.take xs.length = es := by rw [lx, List.take_length]
        rw [ef] at r3
        have ey := dats_strs_eq r3
        subst ey
        have lu : ((es.filter (usesB x)).map Ent.name).length ≤ 7 := by
          rw [List.length_map]
          exact Nat.le_trans (List.length_filter_le _ _) hl
        refine ⟨D, _, rfl, SqL.of hy, by omega, fun us p5 ps ss n5 => ?_⟩
        have eu : us = users es x := srt_eq ps ss
        subst eu
        have s5 : Same H3 (upd H3 p5 (.lst ((users es x).map V.str))) := same_new n5
        have h5 : upd H3 p5 (.lst ((users es x).map V.str)) p5 = some (.lst ((users es x).map V.str)) := upd_same
        have sA := (s2.trans s3).trans s5
        have m5 : ¬ Mu p5 := ((wl2.same s3)).new n5
        generalize upd H3 p5 (.lst ((users es x).map V.str)) = H5 at s5 h5 sA ⊢
        refine ⟨_, rfl, Nat.zero_le _, fun p np => ⟨.list ((users es x).map PyData.str), .list [], .lst (SqL.of (same_new np _ _ h5)) (Dats.dp (Mu := fun _ => False) (dats_strs _)), .lst (SqL.of upd_same) .nil, (strs_lay (n := 0) (users_ok ok)).shaped, by decide +kernel, _, rfl, ?_⟩⟩
        have s6 : Same H5 (upd H5 p (.lst [])) := same_new np
        have sB := sA.trans s6
        have h6 := s6 _ _ h5
        generalize upd H5 p (.lst []) = H6 at s6 sB h6 ⊢
        rw [eqv_nil]
        have wl6 := wl.same sB
        have dv6 := dv0.same sB
        cases hu : users es x with
        | cons y r =>
          have ea : after es lim (LDeed.deed st (.drop x)) = .inl (.inuse y) := by
            show after es lim (.drop x) = _
            rw [after_drop, if_pos hh, hu]
          rw [ea] at q
          rw [hu] at h6
          refine iteT ⟨_, rfl, Mu, .list ((y :: r).map PyData.str), .str y, 0, .lst m5 h6 (dats_strs _), rfl, rfl, fun z dz => ?_⟩
          obtain rfl := dz.asStr
          refine ⟨(by show 1 ≤ sizeLine; decide), fun p1 n1 => ⟨(by show 2 ≤ sizeLine; decide), fun p2 n2 => ⟨_, rfl, (by show 2 ≤ sizeLine; decide), fun p3 n3 => ?_⟩⟩⟩
          obtain ⟨t1, e1⟩ := tup_at wl6 (.cons (.str y) .nil) n1
          obtain ⟨t2, e2⟩ := tup_at (wl6.same t1) (.cons (.str "NameInUse") (.cons e1 .nil)) n2
          obtain ⟨t3, e3⟩ := tup_at ((wl6.same t1).same t2) (.cons e2 (.cons (dv6.same (t1.trans t2)) .nil)) n3
          exact q _ _ (((sB.trans t1).trans t2).trans t3) e3
        | nil =>
          have ea : after es lim (LDeed.deed st (.drop x)) = .inr (dropE es x) := by
            show after es lim (.drop x) = _
            rw [after_drop, if_pos hh, hu]
          rw [ea] at q
          refine iteF ⟨(by show 2 ≤ sizeLine; decide), fun p1 n1 => ?_⟩
          obtain ⟨t1, e1⟩ := tup_at wl6 (.cons (.str "") (.cons .non .nil)) n1
          generalize upd H6 p1 (.tup [V.str "", V.non]) = H7 at t1 e1 ⊢
          refine ⟨_, rfl, _, rfl, k, rfl, Mu, _, wl6.same t1, dv6.same t1, fun p2 H8 s8 d8 => ?_⟩
          refine ⟨_, rfl, _, rfl, _, _, rfl, rfl, _, rfl, Mu, _, (wl6.same t1).same s8, (dv6.same t1).same s8, fun p3 H9 s9 d9 => ?_⟩
          have ek : ((k : Int) + 1) = ((k + 1 : Nat) : Int) := rfl
          rw [ek, cutG_drop] at d9
          rw [cutG_take] at d8
          obtain ⟨_, ys8, e8, m8, h8, r8⟩ := (d8.same s9).asLst
          cases e8
          obtain ⟨_, ys9, e9, m9, h9, r9⟩ := d9.asLst
          cases e9
          refine ⟨p2, p3, ys8, ys9, rfl, rfl, h8, h9, ?_, fun p4 n4 => ⟨(by show 2 ≤ sizeLine; decide), fun p6 n6 => ?_⟩⟩
          · rw [r8.length, r9.length, List.length_take, List.length_drop, List.length_map]
            exact Nat.le_trans (by omega : _ ≤ 7) (by decide)
          · have wl9 := ((wl6.same t1).same s8).same s9
            obtain ⟨t4, e4⟩ := lst_at wl9 (r8.app r9) n4
            obtain ⟨t6, e6⟩ := tup_at (wl9.same t4) (.cons ((e1.same (s8.trans s9)).same t4) (.cons e4 .nil)) n6
            refine q _ _ (((((sB.trans t1).trans s8).trans s9).trans t4).trans t6) ?_
            have el : (es.map Ent.lawD).take k ++ (es.map Ent.lawD).drop (k + 1) = (dropE es x).map Ent.lawD := by
              rw [← hen, dropE_at nd hek, List.map_append, List.map_take, List.map_drop]
            rw [el] at e6
            exact e6
  | set f x i =>
    have nmx : NameOk x := lok.nm
    obtain ⟨th, hth⟩ : ∃ th, st[i]? = some th := ⟨_, List.getElem?_eq_getElem (lok.ix f x i rfl)⟩
    have tk := tok th (List.mem_of_getElem? hth)
    rw [deed_set hth] at q
    have wne : wordOf f ≠ "drop" := by cases f <;> decide +kernel
    have weq : wordOf f = "fact" ↔ f = true := by cases f <;> decide +kernel
    refine ⟨_, rfl, Mu, _, .str (wordOf f), 0, du, rfl, rfl, fun z1 d1 => ?_⟩
    obtain rfl := d1.asStr
    refine ⟨_, rfl, Mu, _, .str x, 1, du, rfl, rfl, fun z2 d2 => ?_⟩
    obtain rfl := d2.asStr
    refine ⟨_, rfl, _, rfl, Mu, _, .str x, 1, du, rfl, rfl, fun z3 d3 => ?_⟩
    obtain rfl := d3.asStr
    refine ⟨Mu, _, es, x, rfl, wl, dv0, by omega, fun H1 s1 => ⟨(by show 3 ≤ sizeLine; decide), fun p np => ⟨_, _, rfl, SqT.of upd_same, rfl, _, _, rfl, _, _, rfl, _, _, rfl, rfl, ?_⟩⟩⟩
    have s2 : Same H (upd H1 p (.tup [V.str (wordOf f), .str x, placeV (place es x)])) := s1.trans (same_new np)
    generalize upd H1 p (.tup [V.str (wordOf f), .str x, placeV (place es x)]) = H2 at s2 ⊢
    -- full?
    refine nx_of ?_
    refine seq_mid (fun σ' H' => σ' = [some (.ref av), some u, some z, some (.int lim), some (.str (wordOf f)), some (.str x), some (placeV (place es x)), none, none, none, none, none, none, none, none, none] ∧ Same H H' ∧ (f = true → place es x = none → es.length < lim)) (fun N hN => ?_) ?_
    · refine ⟨_, rfl, rfl, fun zf => ⟨_, rfl, iteT ⟨_, rfl, rfl, _, rfl, ?_⟩⟩, fun zf => ⟨_, rfl, iteF (iteF (hN _ _ ⟨rfl, s2, fun ft => absurd (weq.mpr ft) fun z => zf (by rw [z])⟩))⟩⟩
      have ft : f = true := weq.mp (V.str.inj zf)
      cases hp : place es x with
      | some k => exact iteF (iteF (hN _ _ ⟨by rw [hp]; rfl, s2, fun _ z => by rw [hp] at z; cases z⟩))
      | none =>
        refine iteT ⟨_, rfl, xs.length, .inl ⟨_, SqL.of (s2 _ _ hav), rfl⟩, _, rfl, _, _, rfl, rfl, _, rfl, ?_⟩
        by_cases le : lim ≤ es.length
        · rw [decide_eq_true (by rw [lx]; exact Int.ofNat_le.mpr le)]
          have ea : after es lim (if f = true then .fact x th.rows th.goal th.cmds else .script x th.cmds) = .inl (.full lim) := by
            rw [if_pos ft, after_fact, if_pos ⟨place_none hp, le⟩]
          rw [ea] at q
          have wl2 := wl.same s2
          refine iteT ⟨_, rfl, (by show 1 ≤ sizeLine; decide), fun p1 n1 => ⟨(by show 2 ≤ sizeLine; decide), fun p2 n2 => ⟨_, rfl, (by show 2 ≤ sizeLine; decide), fun p3 n3 => ?_⟩⟩⟩
          obtain ⟨t1, e1⟩ := tup_at wl2 (.cons (.int lim) .nil) n1
          obtain ⟨t2, e2⟩ := tup_at (wl2.same t1) (.cons (.str "Full") (.cons e1 .nil)) n2
          obtain ⟨t3, e3⟩ := tup_at ((wl2.same t1).same t2) (.cons e2 (.cons ((dv0.same s2).same (t1.trans t2)) .nil)) n3
          exact q _ _ (((s2.trans t1).trans t2).trans t3) e3
        · rw [decide_eq_false (by rw [lx]; exact fun z => le (Int.ofNat_le.mp z))]
          exact iteF (hN _ _ ⟨by rw [hp]; rfl, s2, fun _ _ => by omega⟩)
    -- unknown?
    rintro σ H2 ⟨rfl, s2, full⟩
    refine seq_mid (fun σ' H' => σ' = [some (.ref av), some u, some z, some (.int lim), some (.str (wordOf f)), some (.str x), some (placeV (place es x)), none, none, none, none, none, none, none, none, none] ∧ Same H H' ∧ (place es x = none → f = true)) (fun N hN => ?_) ?_
    · refine ⟨_, rfl, rfl, fun zf => ⟨_, rfl, iteF (iteF (hN _ _ ⟨rfl, s2, fun _ => weq.mp (V.str.inj zf)⟩))⟩, fun zf => ⟨_, rfl, iteT ⟨_, rfl, rfl, _, rfl, ?_⟩⟩⟩
      cases hp : place es x with
      | some k => exact iteF (hN _ _ ⟨by rw [hp], s2, fun z => by rw [hp] at z; cases z⟩)
      | none =>
        have ff : ¬ f = true := fun ft => zf (by rw [weq.mpr ft])
        have ea : after es lim (if f = true then .fact x th.rows th.goal th.cmds else .script x th.cmds) = .inl (.unknown x) := by
          rw [if_neg ff, after_script, ent_none (place_none hp)]
        rw [ea] at q
        have wl2 := wl.same s2
        refine iteT ⟨_, rfl, (by show 1 ≤ sizeLine; decide), fun p1 n1 => ⟨(by show 2 ≤ sizeLine; decide), fun p2 n2 => ⟨_, rfl, (by show 2 ≤ sizeLine; decide), fun p3 n3 => ?_⟩⟩⟩
        obtain ⟨t1, e1⟩ := tup_at wl2 (.cons (.str x) .nil) n1
        obtain ⟨t2, e2⟩ := tup_at (wl2.same t1) (.cons (.str "UnknownName") (.cons e1 .nil)) n2
        obtain ⟨t3, e3⟩ := tup_at ((wl2.same t1).same t2) (.cons e2 (.cons ((dv0.same s2).same (t1.trans t2)) .nil)) n3
        exact q _ _ (((s2.trans t1).trans t2).trans t3) e3
    rintro σ H2 ⟨rfl, s2, kn⟩
    -- the entry
    obtain ⟨e, en, ec, okE, ea, e1, e2⟩ : ∃ e : Ent, e.name = x ∧ e.cmds = th.cmds ∧ EntOk e ∧ after es lim (if f = true then .fact x th.rows th.goal th.cmds else .script x th.cmds) = tryE es e ∧ (f = true → e.rows = th.rows ∧ e.goal = th.goal) ∧ (f ≠ true → ∃ k e0, place es x = some k ∧ es[k]? = some e0 ∧ e0.name = x ∧ e.rows = e0.rows ∧ e.goal = e0.goal) := by
      by_cases ft : f = true
      · refine ⟨⟨x, th.rows, th.goal, th.cmds⟩, rfl, rfl, ⟨nmx, tk.ro, tk.rl, tk.go, tk.gd, tk.co, tk.cl⟩, ?_, fun _ => ⟨rfl, rfl⟩, fun z => absurd ft z⟩
        rw [if_pos ft, after_fact, if_neg]
        rintro ⟨n, le⟩
        cases hp : place es x with
        | none => exact absurd (full ft hp) (by omega)
        | some k =>
          obtain ⟨e0, he0, hn0⟩ := place_some hp
          exact n (hn0 ▸ List.mem_map.mpr ⟨e0, List.mem_of_getElem? he0, rfl⟩)
      · cases hp : place es x with
        | none => exact absurd (kn hp) ft
        | some k =>
          obtain ⟨e0, he0, hn0⟩ := place_some hp
          have ok0 := ok e0 (List.mem_of_getElem? he0)
          refine ⟨⟨x, e0.rows, e0.goal, th.cmds⟩, rfl, rfl, ⟨nmx, ok0.ro, ok0.rl, ok0.go, ok0.gd, tk.co, tk.cl⟩, ?_, fun z => absurd z ft, fun _ => ⟨k, e0, rfl, he0, hn0, rfl, rfl⟩⟩
          rw [if_neg ft, after_script, place_ent nd hp he0]
    rw [ea] at q
    -- no drop; its things
    refine ⟨_, rfl, rfl, fun z => absurd (V.str.inj z) wne, fun _ => ⟨_, rfl, iteF ?_⟩⟩
    have dz2 := dz.same s2
    refine ⟨_, rfl, _, rfl, Mu, _, .int (i : Nat), 2, du.same s2, rfl, rfl, fun zi di => ?_⟩
    obtain rfl := di.asInt
    refine ⟨Mu, _, th.d, i, dz2, rfl, by show (st.map Thing.d)[i]? = some th.d; rw [List.getElem?_map, hth]; rfl, fun zt dt => ?_⟩
    obtain ⟨pt, ts, rfl, mt, ht, rt⟩ := dt.asTup
    obtain ⟨t1, t2, t3, rfl, r1, r2, r3⟩ : ∃ t1 t2 t3, ts = [t1, t2, t3] ∧ Dat Mu H2 t1 (.list (rowsD th.rows)) ∧ Dat Mu H2 t2 th.goal.d ∧ Dat Mu H2 t3 (.list (th.cmds.map Cm.law)) := by
      cases rt with
      | cons h1 t =>
        cases t with
        | cons h2 t =>
          cases t with
          | cons h3 t =>
            cases t
            exact ⟨_, _, _, rfl, h1, h2, h3⟩
    refine ⟨pt, _, rfl, SqT.of ht, rfl, _, _, rfl, _, _, rfl, _, _, rfl, rfl, ?_⟩
    -- late
    refine nx_of ?_
    refine seq_mid (fun σ' H' => ∃ p, σ' = [some (.ref av), some u, some z, some (.int lim), some (.str (wordOf f)), some (.str x), some (placeV (place es x)), none, none, some t1, some t2, some t3, some (.ref p), none, none, none] ∧ Same H2 H' ∧ Dat Mu H' (.ref p) e.lawD) (fun N hN => ?_) ?_
    · refine ⟨_, rfl, rfl, fun zf => ⟨_, rfl, iteT ?_⟩, fun zf => ⟨_, rfl, iteF ?_⟩⟩
      · have ft : f = true := weq.mp (V.str.inj zf)
        obtain ⟨er, eg⟩ := e1 ft
        refine ⟨_, rfl, _, rfl, _, rfl, _, rfl, (by show 4 ≤ sizeLine; decide), fun p1 n1 => ?_⟩
        obtain ⟨t1', d1'⟩ := tup_at (wl.same s2) (.cons (.str x) (.cons r1 (.cons r2 (.cons r3 .nil)))) n1
        refine hN _ _ ⟨p1, rfl, t1', ?_⟩
        unfold Ent.lawD
        rw [en, er, eg, ec]
        exact d1'
      · have ff : ¬ f = true := fun ft => zf (by rw [weq.mpr ft])
        obtain ⟨k, e0, hp, he0, hn0, er, eg⟩ := e2 ff
        refine ⟨_, rfl, _, rfl, Mu, _, e0.lawD, k, dv0.same s2, by rw [hp]; rfl, lawC_at he0, fun zr dr => ⟨3, rfl, Mu, _, wl.same s2, dr, fun p' H' s' d' => ⟨_, rfl, (by show 1 ≤ sizeLine; decide), fun p2 n2 => ?_⟩⟩⟩
        obtain ⟨_, ys, ey, my, hy, ry⟩ := d'.asTup
        cases ey
        have dt3 : Dat Mu H' t3 (.list (th.cmds.map Cm.law)) := r3.same s'
        have ec3 : cutG [PyData.str e0.name, .list (rowsD e0.rows), e0.goal.d, .list (e0.cmds.map Cm.law)] none (some (3 : Int)) = [PyData.str e0.name, .list (rowsD e0.rows), e0.goal.d] := cutG_take _ 3
        have ry2 : Dats Mu H' ys [PyData.str e0.name, .list (rowsD e0.rows), e0.goal.d] := by
          rw [← ec3]
          exact ry
        have ly : ys.length = 3 := ry2.length
        obtain ⟨tt2, dd2⟩ := tup_at (wl.same (s2.trans s')) (.cons dt3 .nil) n2
        refine ⟨p', p2, ys, [t3], rfl, rfl, SqT.of (tt2 _ _ hy), SqT.of upd_same, ?_, fun z => ?_, fun _ z => ?_, fun _ _ p3 n3 => ?_⟩
        · rw [ly]
          show 4 ≤ sizeLine
          decide
        · rw [z] at ly
          cases ly
        · cases z
        · obtain ⟨tt3, dd3⟩ := tup_at ((wl.same (s2.trans s')).same tt2) ((ry2.same tt2).app (.cons (dt3.same tt2) .nil)) n3
          refine hN _ _ ⟨p3, rfl, (s'.trans tt2).trans tt3, ?_⟩
          have el : e.lawD = .tuple ([PyData.str e0.name, .list (rowsD e0.rows), e0.goal.d] ++ [.list (th.cmds.map Cm.law)]) := by
            unfold Ent.lawD
            rw [en, er, eg, ec, hn0]
            rfl
          rw [el]
          exact dd3
    rintro σ H3 ⟨pe, rfl, s3, de⟩
    have s23 := s2.trans s3
    -- later
    refine seq_mid (fun σ' H' => ∃ p, σ' = [some (.ref av), some u, some z, some (.int lim), some (.str (wordOf f)), some (.str x), some (placeV (place es x)), none, none, some t1, some t2, some t3, some (.ref pe), some (.ref p), none, none] ∧ Same H3 H' ∧ Dat Mu H' (.ref p) (lawC (setE es e))) (fun N hN => ?_) ?_
    · refine ⟨_, rfl, rfl, _, rfl, ?_⟩
      have wl3 := wl.same s23
      have hav3 := s23 _ _ hav
      have rv3 := rv.same s23
      cases hp : place es x with
      | none =>
        refine iteT ⟨_, rfl, _, rfl, (by show 1 ≤ sizeLine; decide), fun p1 n1 => ?_⟩
        obtain ⟨tt1, dd1⟩ := lst_at wl3 (.cons de .nil) n1
        refine ⟨av, p1, xs, [.ref pe], rfl, rfl, tt1 _ _ hav3, upd_same, ?_, fun p2 n2 => ?_⟩
        · rw [lx]
          exact Nat.le_trans (by show es.length + 1 ≤ 8; omega) (by decide)
        · obtain ⟨tt2, dd2⟩ := lst_at (wl3.same tt1) ((rv3.same tt1).app (.cons (de.same tt1) .nil)) n2
          refine hN _ _ ⟨p2, by rw [hp]; rfl, tt1.trans tt2, ?_⟩
          have nh : ¬ has es e.name := by
            rw [en]
            exact place_none hp
          rw [setE_new nh]
          show Dat Mu _ _ (.list ((es ++ [e]).map Ent.lawD))
          rw [List.map_append]
          exact dd2
      | some k =>
        obtain ⟨e0, he0, hn0⟩ := place_some hp
        refine iteF ⟨_, rfl, _, rfl, k, rfl, Mu, _, wl3, dv0.same s23, fun pa Ha sa da => ⟨_, rfl, (by show 1 ≤ sizeLine; decide), fun p1 n1 => ?_⟩⟩
        rw [cutG_take] at da
        obtain ⟨_, ya, ea', ma, ha, ra⟩ := da.asLst
        cases ea'
        obtain ⟨tt1, dd1⟩ := lst_at (wl3.same sa) (.cons (de.same sa) .nil) n1
        have lya : ya.length ≤ 7 := by
          rw [ra.length, List.length_take, List.length_map]
          omega
        refine ⟨pa, p1, ya, [.ref pe], rfl, rfl, tt1 _ _ ha, upd_same, Nat.le_trans (by show ya.length + 1 ≤ 8; omega) (by decide), fun p2 n2 => ?_⟩
        obtain ⟨tt2, dd2⟩ := lst_at ((wl3.same sa).same tt1) ((ra.same tt1).app (.cons ((de.same sa).same tt1) .nil)) n2
        have sA := (sa.trans tt1).trans tt2
        have h2 : upd (upd Ha p1 (.lst [.ref pe])) p2 (.lst (ya ++ [V.ref pe])) p2 = some (.lst (ya ++ [V.ref pe])) := upd_same
        generalize upd (upd Ha p1 (.lst [.ref pe])) p2 (.lst (ya ++ [V.ref pe])) = H4 at tt2 dd2 sA h2 ⊢
        refine ⟨_, rfl, _, rfl, _, _, rfl, rfl, _, rfl, Mu, _, wl3.same sA, (dv0.same s23).same sA, fun p5 H5 s5 d5 => ?_⟩
        have ek : ((k : Int) + 1) = ((k + 1 : Nat) : Int) := rfl
        rw [ek, cutG_drop] at d5
        obtain ⟨_, y5, e5, m5, h5, r5⟩ := d5.asLst
        cases e5
        obtain ⟨_, y2, e2', m2, h2', r2'⟩ := (dd2.same s5).asLst
        cases e2'
        refine ⟨p2, p5, y2, y5, rfl, rfl, h2', h5, ?_, fun p6 n6 => ?_⟩
        · rw [r2'.length, r5.length, List.length_append, List.length_take, List.length_drop, List.length_map]
          exact Nat.le_trans (by show min k es.length + 1 + (es.length - (k + 1)) ≤ 9; omega) (by decide)
        · obtain ⟨tt6, dd6⟩ := lst_at ((wl3.same sA).same s5) (r2'.app r5) n6
          refine hN _ _ ⟨p6, by rw [hp]; rfl, (sA.trans s5).trans tt6, ?_⟩
          have es' : setE es e = es.take k ++ [e] ++ es.drop (k + 1) := setE_at nd he0 (hn0.trans en.symm)
          rw [es']
          show Dat Mu _ _ (.list ((es.take k ++ [e] ++ es.drop (k + 1)).map Ent.lawD))
          rw [List.map_append, List.map_append, List.map_take, List.map_drop]
          exact dd6
    rintro σ H4 ⟨pl, rfl, s4, dl⟩
    have sA := s23.trans s4
    have ok2 := ok_setE ok okE
    have nd2 := nd_setE (e := e) nd
    have hx2 : has (setE es e) x := has_setE.mpr (.inr en.symm)
    have l2 : (setE es e).length ≤ 8 := by
      rw [len_setE]
      split <;> omega
    have wl4 := wl.same sA
    have r34 : Dat Mu H4 t3 (.list (th.cmds.map Cm.law)) := r3.same (s3.trans s4)
    have rc : e.rcl = uniq (recs th.cmds) := by
      unfold Ent.rcl
      rw [ec]
    have nm4 : ∀ y ∈ e.rcl, NameOk y := fun y hy => by
      obtain ⟨d, hd, hyd⟩ := List.mem_flatMap.mp (mem_uniq_recs.mp hy)
      have od := okE.co d hd
      unfold Cm.rcl at hyd
      unfold Cm.ok at od
      cases hs : d.s with
      | recall z =>
        rw [hs] at hyd od
        rw [List.mem_singleton.mp hyd]
        exact od
      | _ =>
        rw [hs] at hyd
        cases hyd
    refine ⟨_, rfl, Mu, t3, th.cmds, rfl, wl4, r34, tk.co, tk.cl, fun p7 H7 s7 d7 n7 => ?_⟩
    obtain ⟨_, ys, e7, m7, h7, r7⟩ := d7.asLst
    cases e7
    rw [← rc] at r7
    have e8 := dats_strs_eq r7
    subst e8
    have wl7 := wl4.same s7
    have dl7 := dl.same s7
    have lr : e.rcl.length ≤ 8 := by
      rw [rc]
      have h1 := uniq_len (recs th.cmds)
      have h2 := recs_len th.cmds
      have h3 := tk.cl
      omega
    refine ⟨p7, rfl, ⟨_, SqL.of h7⟩, fun D hD => ?_⟩
    have nD : p7 ≠ D := ne_of_none h7 hD
    refine lc_dat walk_list (Mc := fun _ => False) (Mu := Mu) (fun _ z => z.elim) wl7 hD (by rw [List.length_map]; omega) (fun i => (missing (setE es e) (e.rcl.take i)).map PyData.str) rfl (fun _ _ => True) trivial (fun _ _ _ _ => trivial) (fun i H k _ => SqL.of (k.at_ _ _ (fun z => z.elim (fun z => z) nD) h7)) ?_ ?_
    · rintro i x0 Hj' Hj add skip hi kj wlj hDj - ⟨rfl, hx0⟩ ha hs
      obtain ⟨y, hy, rfl⟩ := map_at hx0
      have g : ∀ b, wi Mu D b → Mu b ∨ H7 b = none := fun b m => m.imp id fun e => by rw [show b = D from e]; exact hD
      have dj : Dat (wi Mu D) Hj (.ref pl) (lawC (setE es e)) := (dl7.grow g).keep (kj.wide fun b m => m.elim (fun z => z.elim) .inr)
      refine ⟨rfl, _, rfl, _, rfl, wi Mu D, _, setE es e, y, rfl, wlj, dj, by omega, fun H8 s8 => ?_⟩
      refine ⟨rfl, _, rfl, ?_⟩
      cases hp : place (setE es e) y with
      | none =>
        refine iteT ⟨_, rfl, ha (.str y) H8 (.str y) (.of s8) (same_at s8 hDj) (.str y) ?_ trivial⟩
        show (missing (setE es e) (e.rcl.take (i + 1))).map PyData.str = _
        rw [missing_take hy, if_neg (place_none hp), List.map_append]
        rfl
      | some k2 =>
        obtain ⟨ee, hee, hne⟩ := place_some hp
        have hh : has (setE es e) y := by
          rw [← hne]
          exact List.mem_map.mpr ⟨ee, List.mem_of_getElem? hee, rfl⟩
        refine iteF (hs H8 (.of s8) (same_at s8 hDj) ?_ trivial)
        show (missing (setE es e) (e.rcl.take (i + 1))).map PyData.str = _
        rw [missing_take hy, if_pos hh]
    · rintro H8 ys k8 hy r8 - mD
      have s8 : Same H7 H8 := k8.same fun _ z => z
      rw [List.length_map, List.take_length] at r8
      have ey := dats_strs_eq r8
      subst ey
      have sB := (sA.trans s7).trans s8
      refine ⟨_, rfl, Nat.zero_le _, fun p np => ⟨.list ((missing (setE es e) e.rcl).map PyData.str), .list [], .lst (SqL.of (same_new np _ _ hy)) (Dats.dp (Mu := fun _ => False) (dats_strs _)), .lst (SqL.of upd_same) .nil, (strs_lay (n := 0) fun y hy => nm4 y (List.mem_filter.mp hy).1).shaped, by decide +kernel, _, rfl, ?_⟩⟩
      have s9 : Same H8 (upd H8 p (.lst [])) := same_new np
      have h9 := s9 _ _ hy
      have sC := sB.trans s9
      generalize upd H8 p (.lst []) = H9 at s9 h9 sC ⊢
      rw [eqv_nil]
      have wl9 := wl.same sC
      have dv9 := dv0.same sC
      have dl9 : Dat Mu H9 (.ref pl) (lawC (setE es e)) := (dl7.same s8).same s9
      unfold tryE need at q
      rw [en, ← en, rclOf_set, lost_missing, en] at q
      cases hm : missing (setE es e) e.rcl with
      | cons y r =>
        rw [hm] at q h9
        refine iteT ⟨_, rfl, Mu, .list ((y :: r).map PyData.str), .str y, 0, .lst mD h9 (dats_strs _), rfl, rfl, fun z dz => ?_⟩
        obtain rfl := dz.asStr
        refine ⟨(by show 1 ≤ sizeLine; decide), fun p1 n1 => ⟨(by show 2 ≤ sizeLine; decide), fun p2 n2 => ⟨_, rfl, (by show 2 ≤ sizeLine; decide), fun p3 n3 => ?_⟩⟩⟩
        obtain ⟨q1, f1⟩ := tup_at wl9 (.cons (.str y) .nil) n1
        obtain ⟨q2, f2⟩ := tup_at (wl9.same q1) (.cons (.str "UnknownName") (.cons f1 .nil)) n2
        obtain ⟨q3, f3⟩ := tup_at ((wl9.same q1).same q2) (.cons f2 (.cons (dv9.same (q1.trans q2)) .nil)) n3
        exact q _ _ (((sC.trans q1).trans q2).trans q3) f3
      | nil =>
        rw [hm] at q
        have lo : lost (setE es e) e.rcl = none := by
          rw [lost_missing, hm]
          rfl
        have cl2 := closed_set cl lo
        refine iteF ⟨_, rfl, _, rfl, _, rfl, Mu, _, setE es e, x, rfl, wl9, dl9, ok2, nd2, cl2, l2, hx2, fun pr Hr sr dr nr => ?_⟩
        obtain ⟨_, yr, er, mr, hr', rr⟩ := dr.asLst
        cases er
        have er := dats_strs_eq rr
        subst er
        have sD := sC.trans sr
        have wlD := wl.same sD
        refine ⟨_, _, rfl, .inl (SqL.of hr'), rfl, flat_strs _, fun z => ?_, fun z => ?_⟩
        · rw [inV_strs] at z
          rw [if_pos (of_decide_eq_true z)] at q
          refine ⟨_, rfl, iteT ⟨_, rfl, (by show 1 ≤ sizeLine; decide), fun p1 n1 => ⟨(by show 2 ≤ sizeLine; decide), fun p2 n2 => ⟨_, rfl, (by show 2 ≤ sizeLine; decide), fun p3 n3 => ?_⟩⟩⟩⟩
          obtain ⟨q1, f1⟩ := tup_at wlD (.cons (.str x) .nil) n1
          obtain ⟨q2, f2⟩ := tup_at (wlD.same q1) (.cons (.str "Circular") (.cons f1 .nil)) n2
          obtain ⟨q3, f3⟩ := tup_at ((wlD.same q1).same q2) (.cons f2 (.cons ((dv0.same sD).same (q1.trans q2)) .nil)) n3
          exact q _ _ (((sD.trans q1).trans q2).trans q3) f3
        · rw [inV_strs] at z
          rw [if_neg (of_decide_eq_false z)] at q
          refine ⟨_, rfl, iteF ⟨(by show 2 ≤ sizeLine; decide), fun p1 n1 => ⟨_, rfl, (by show 2 ≤ sizeLine; decide), fun p3 n3 => ?_⟩⟩⟩
          obtain ⟨q1, f1⟩ := tup_at wlD (.cons (.str "") (.cons .non .nil)) n1
          obtain ⟨q3, f3⟩ := tup_at (wlD.same q1) (.cons f1 (.cons ((dl9.same sr).same q1) .nil)) n3
          exact q _ _ ((sD.trans q1).trans q3) f3
end
end AG
namespace AG
open PySem PySem.Spec PyProof.Rows L2
section
variable {P : Program} {w : World} {K : PySem.W.Frag} {mg : Str → Option Value} {base : Heap} {c : Cs}
/-! ### _law_deed -/
def spLDeed : Sp := fun vs H Q _ => ∃ (Mu : Mut1) (B na sa : Addr) (ns : List Str) (st : List Thing), vs = [.ref B, .ref na, .ref sa] ∧ Wl Mu H ∧ Bag Mu H B ∧ Wds Mu H na ns ∧ Dat Mu H (.ref sa) (.list (st.map Thing.d)) ∧ 1 ≤ st.length ∧ st.length ≤ 100 ∧
  ∀ (ld : LDeed) v H', LOk st ld → Kp (fun b => b = B) H H' → Bag Mu H' B → Dat Mu H' v ld.d → Q v H'
theorem sc__law_deed : FnScope ["_law_bag_here", "_law_names_here", "_law_stock", "_law_way", "_law_name"] ["_law_bag_here", "_law_names_here", "_law_stock"] (defScope s__law_deed) := ⟨rfl, rfl, rfl, by decide +kernel, rfl, by decide +kernel, by decide +kernel⟩
theorem ok__law_deed (T : Txt w K mg c) : Def P w K mg base CX0 "_law_deed" ["_law_bag_here", "_law_names_here", "_law_stock"] 3 spLDeed := by
  refine T.d__law_deed.def_ sc__law_deed (fun vs H Q E ⟨_, _, _, _, _, _, e, _⟩ => by rw [e]; rfl) (fun _ _ _ _ _ _ us hl => match us, hl with | [_, _, _], _ => rfl) fun f cdv A outer s H vs Q E hr h => ?_
  obtain ⟨Mu, B, na, sa, ns, st, rfl, wl, bg, nd, ds, l1, l2, q⟩ := h
  refine ⟨_, PSs.nox (pss_cons (ps_par (i := 3) (j := 4) rfl sc__law_deed.nd rfl rfl (by decide) rfl rfl (pa_cons (dcall (ok__law_pull T) hr (by decide) pass0 (pa_cons (pv 0) (pa_cons pe_int pa_nil))) (pa_cons (dcall (ok__law_any T) hr (by decide) pass0 (pa_cons (pv 0) (pa_cons (pv 1) pa_nil))) pa_nil)) rfl)
      (pss_cons (ps_if (pt_cmpR op_lt (pv 3) pe_int (nomark _)) (pss_one (ps_ret (pe_tup (pa_cons pe_str (pa_cons (pv 4) (pa_cons (dcall (ok__law_pull T) hr (by decide) pass0 (pa_cons (pv 0) (pa_cons (len1 T.n_len (pa_cons (pv 2) pa_nil)) pa_nil))) pa_nil)))))) pss_nil)
      (pss_one (ps_ret (pe_ifExp (pt_cmpR op_lt (pv 3) pe_int (nomark _)) (pe_tup (pa_cons pe_str (pa_cons (pv 4) (pa_cons (dcall (ok__law_pull T) hr (by decide) pass0 (pa_cons (pv 0) (pa_cons (len1 T.n_len (pa_cons (pv 2) pa_nil)) pa_nil))) pa_nil)))) (pe_tup (pa_cons pe_str (pa_cons (pv 4) pa_nil)))))))), ?_⟩
  refine ⟨_, rfl, Mu, B, 7, rfl, bg, by decide, by decide, fun r H1 r0 r1 k1 b1 => ?_⟩
  have mB := bg.mu
  have nd1 := nd.keep (kpB mB k1)
  refine ⟨_, rfl, _, rfl, Mu, B, .ref na, rfl, b1, .inl ⟨na, _, rfl, fun z => nd1.1 (z ▸ mB), nd1.2.1, by rw [List.length_map]; exact nd.2.2.1, by rw [List.length_map]; exact nd.2.2.2.1, fun x hx H2 k2 b2 => ?_⟩⟩
  obtain ⟨y, hy, rfl⟩ := List.mem_map.mp hx
  have ny : NameOk y := nd.2.2.2.2 y hy
  have k12 := k1.trans k2
  have ds2 : Dat Mu H2 (.ref sa) (.list (st.map Thing.d)) := ds.keep (kpB mB k12)
  obtain ⟨_, xs, e2, ms, hs, rs⟩ := ds2.asLst
  cases e2
  have lx : xs.length = st.length := rs.length.trans (List.length_map ..)
  have drawn : ∀ (f : Bool) (H' : Hp) (i : Int), 0 ≤ i → i < (st.length : Nat) → Kp (fun b => b = B) H2 H' → Bag Mu H' B → ∀ p, H' p = none → Q (.ref p) (upd H' p (.tup [.str (wordOf f), .str y, .int i])) := fun f H' i i0 i1 k b p np => by
    obtain ⟨j, rfl⟩ := Int.eq_ofNat_of_zero_le i0
    have kk := k12.trans k
    obtain ⟨t, d⟩ := tup_at (wl.kp kk) (.cons (.str (wordOf f)) (.cons (.str y) (.cons (.int (j : Nat)) .nil))) np
    exact q (.set f y j) _ _ ⟨ny, fun f' x' i' z => by cases z; omega⟩ (kpS kk t) (b.same t) d
  refine ⟨_, _, rfl, _, rfl, _, _, rfl, rfl, _, rfl, ?_⟩
  by_cases c4 : r < 4
  · rw [decide_eq_true c4]
    exact iteT ⟨_, rfl, _, rfl, _, rfl, xs.length, .inl ⟨_, SqL.of hs, rfl⟩, Mu, B, (xs.length : Nat), rfl, b2, by omega, by omega, fun i H3 i0 i1 k3 b3 => ⟨by show 3 ≤ sizeLine; decide, drawn true H3 i i0 (by omega) k3 b3⟩⟩
  · rw [decide_eq_false c4]
    refine iteF ⟨_, rfl, _, _, rfl, rfl, _, rfl, ?_⟩
    by_cases c6 : r < 6
    · rw [decide_eq_true c6]
      exact iteT ⟨_, rfl, _, rfl, _, rfl, xs.length, .inl ⟨_, SqL.of hs, rfl⟩, Mu, B, (xs.length : Nat), rfl, b2, by omega, by omega, fun i H3 i0 i1 k3 b3 => ⟨by show 3 ≤ sizeLine; decide, drawn false H3 i i0 (by omega) k3 b3⟩⟩
    · rw [decide_eq_false c6]
      refine iteF ⟨_, rfl, by show 2 ≤ sizeLine; decide, fun p np => ?_⟩
      obtain ⟨t, d⟩ := tup_at (wl.kp k12) (.cons (.str "drop") (.cons (.str y) .nil)) np
      exact q (.drop y) _ _ ⟨ny, fun f' x' i' z => by cases z⟩ (kpS k12 t) (b2.same t) d
end
end AG
namespace AG
open PySem PySem.Spec PyProof.Rows L2
section
variable {P : Program} {w : World} {K : PySem.W.Frag} {mg : Str → Option Value} {base : Heap} {c : Cs}
theorem same_made {H H' : Hp} {x dx C : Addr} (nx : H x = none) (nd : H dx = none) (ne : dx ≠ x) (k : Kp (fun b => b = x) (upd (upd H dx (.own x)) x (.ins C dx [])) H') : Same H H' := fun b o e => k.at_ b o (ne_of_none e nx) (same_ins nx nd ne b o e)
theorem wl_made {Mu : Mut1} {H : Hp} {x dx C : Addr} (wl : Wl Mu H) (nx : H x = none) (nd : H dx = none) (ne : dx ≠ x) : Wl (wi Mu x) (upd (upd H dx (.own x)) x (.ins C dx [])) := (wl.same (same_ins nx nd ne)).wi (by rw [upd_same]; exact fun z => by cases z)
/-- Context(rows) -/
theorem make_ctx {Mu : Mut1} {H : Hp} {v : V} {rs : List Row} {R : Addr → VK} {E : XK} (wl : Wl Mu H) (d : Dat Mu H v (.list (rowsD rs))) (ok : ∀ r ∈ rs, RowOk r) (hl : rs.length ≤ 8) (q : ∀ x H', Same H H' → H x = none → Ctx c Mu H' (.ref x) rs → R x .non H') :
    ∀ x dx, H x = none → H dx = none → dx ≠ x → spCtxInit c (.ref x :: ([v] ++ [.int 10])) (upd (upd H dx (.own x)) x (.ins c.Context dx [])) (R x) E := fun x dx nx nd ne => by
  have g : ∀ b, wi Mu x b → Mu b ∨ H b = none := fun b m => m.imp id fun e => by rw [show b = x from e]; exact nx
  refine ⟨wi Mu x, x, dx, v, rs, rfl, wl_made wl nx nd ne, .inr rfl, upd_same, (d.grow g).same (same_ins nx nd ne), ok, hl, fun H' t k h dt => q x H' (same_made nx nd ne k) nx ⟨t, ⟨x, dx, rfl, wl.new nx, h⟩, dt.less fun b m => .inl m⟩⟩
/-- Script(commands) -/
theorem make_scr {Mu : Mut1} {H : Hp} {v : V} {cs : List Cm} {R : Addr → VK} {E : XK} (wl : Wl Mu H) (d : Dat Mu H v (.list (cs.map Cm.law))) (ok : ∀ d ∈ cs, d.ok) (hl : cs.length ≤ 8) (q : ∀ x H', Same H H' → H x = none → Scr c Mu H' (.ref x) cs → R x .non H') :
    ∀ x dx, H x = none → H dx = none → dx ≠ x → spScrInit c (.ref x :: ([v] ++ [])) (upd (upd H dx (.own x)) x (.ins c.Script dx [])) (R x) E := fun x dx nx nd ne => by
  have g : ∀ b, wi Mu x b → Mu b ∨ H b = none := fun b m => m.imp id fun e => by rw [show b = x from e]; exact nx
  refine ⟨wi Mu x, x, dx, v, cs, rfl, wl_made wl nx nd ne, .inr rfl, upd_same, (d.grow g).same (same_ins nx nd ne), ok, hl, fun H' t u k h dt du => q x H' (same_made nx nd ne k) nx ⟨t, u, ⟨x, dx, rfl, wl.new nx, h⟩, dt.less fun b m => .inl m, du.less fun b m => .inl m⟩⟩
/-! ### _law_made_deed -/
def spLMade (c : Cs) : Sp := fun vs H Q _ => ∃ (Mu : Mut1) (u z : V) (st : List Thing) (ld : LDeed), vs = [u, z] ∧ Wl Mu H ∧ Dat Mu H u ld.d ∧ Dat Mu H z (.list (st.map Thing.d)) ∧ (∀ t ∈ st, ThingOk t) ∧ LOk st ld ∧ ∀ v H', Same H H' → DeedV c Mu H' v (ld.deed st) → Q v H'
theorem sc__law_made_deed : FnScope ["_law_deed_here", "_law_stock", "_law_rows_here", "_law_goal", "_law_commands"] ["_law_deed_here", "_law_stock"] (defScope s__law_made_deed) := ⟨rfl, rfl, rfl, by decide +kernel, rfl, by decide +kernel, by decide +kernel⟩
theorem ok__law_made_deed (T : Txt w K mg c) : Def P w K mg base CX0 "_law_made_deed" ["_law_deed_here", "_law_stock"] 10 (spLMade c) := by
  refine T.d__law_made_deed.def_ sc__law_made_deed (fun vs H Q E ⟨_, _, _, _, _, e, _⟩ => by rw [e]; rfl) (fun _ _ _ _ _ _ us hl => match us, hl with | [_, _], _ => rfl) fun f cdv A outer s H vs Q E hr h => ?_
  obtain ⟨Mu, u, z, st, ld, rfl, wl, du, dz, tok, lok, q⟩ := h
  refine ⟨_, PSs.nox (pss_cons (ps_if (pt_cmpR op_eqC (pe_ix ix_dat (pv 0) pe_int (fun _ _ => rfl)) pe_str (nomark _)) (pss_one (ps_ret (pe_tup (pa_cons pe_str (pa_cons (pe_ix ix_dat (pv 0) pe_int (fun _ _ => rfl)) pa_nil))))) pss_nil)
      (pss_cons (ps_asg (pe_ix ix_dat (pv 1) (pe_ix ix_dat (pv 0) pe_int (fun _ _ => rfl)) (fun _ _ => rfl)) (pg_tup rfl (pgs_cons (pg_name (i := 2) sc__law_made_deed.nd rfl (Or.inl rfl)) (pgs_cons (pg_name (i := 3) sc__law_made_deed.nd rfl (Or.inl rfl)) (pgs_cons (pg_name (i := 4) sc__law_made_deed.nd rfl (Or.inl rfl)) pgs_nil)))))
      (pss_cons (ps_if (pt_cmpR op_eqC (pe_ix ix_dat (pv 0) pe_int (fun _ _ => rfl)) pe_str (nomark _)) (pss_one (ps_ret (pe_tup (pa_cons pe_str (pa_cons (pe_ix ix_dat (pv 0) pe_int (fun _ _ => rfl)) (pa_cons (kcall (ok_Script T) hr (by decide) pass0 (pa_cons (pv 4) pa_nil)) pa_nil)))))) pss_nil)
      (pss_one (ps_ret (pe_tup (pa_cons pe_str (pa_cons (pe_ix ix_dat (pv 0) pe_int (fun _ _ => rfl)) (pa_cons (kcall (ok_Context T) hr (by decide) pass0 (pa_cons (pv 2) pa_nil)) (pa_cons (pv 3) (pa_cons (kcall (ok_Script T) hr (by decide) pass0 (pa_cons (pv 4) pa_nil)) pa_nil))))))))))), ?_⟩
  cases ld with
  | drop x =>
    refine ⟨_, rfl, Mu, _, .str "drop", 0, du, rfl, rfl, fun z1 d1 => ?_⟩
    obtain rfl := d1.asStr
    refine ⟨rfl, fun _ => ⟨_, rfl, iteT ⟨_, rfl, Mu, _, .str x, 1, du, rfl, rfl, fun z2 d2 => ?_⟩⟩, fun z => absurd rfl z⟩
    obtain rfl := d2.asStr
    exact ⟨by show 2 ≤ sizeLine; decide, fun p np => q _ _ (same_new np) ⟨p, rfl, wl.new np, upd_same⟩⟩
  | set f x i =>
    have wne : wordOf f ≠ "drop" := by cases f <;> decide +kernel
    have wsc : wordOf f = "script" ↔ f ≠ true := by cases f <;> decide +kernel
    obtain ⟨th, hth⟩ : ∃ th, st[i]? = some th := ⟨_, List.getElem?_eq_getElem (lok.ix f x i rfl)⟩
    have tk := tok th (List.mem_of_getElem? hth)
    rw [deed_set hth] at q
    refine ⟨_, rfl, Mu, _, .str (wordOf f), 0, du, rfl, rfl, fun z1 d1 => ?_⟩
    obtain rfl := d1.asStr
    refine ⟨rfl, fun z => absurd (V.str.inj z) wne, fun _ => ⟨_, rfl, iteF ?_⟩⟩
    refine ⟨_, rfl, _, rfl, Mu, _, .int (i : Nat), 2, du, rfl, rfl, fun zi di => ?_⟩
    obtain rfl := di.asInt
    refine ⟨Mu, _, th.d, i, dz, rfl, by show (st.map Thing.d)[i]? = some th.d; rw [List.getElem?_map, hth]; rfl, fun zt dt => ?_⟩
    obtain ⟨pt, ts, rfl, mt, ht, rt⟩ := dt.asTup
    obtain ⟨t1, t2, t3, rfl, r1, r2, r3⟩ : ∃ t1 t2 t3, ts = [t1, t2, t3] ∧ Dat Mu H t1 (.list (rowsD th.rows)) ∧ Dat Mu H t2 th.goal.d ∧ Dat Mu H t3 (.list (th.cmds.map Cm.law)) := by
      cases rt with
      | cons h1 t =>
        cases t with
        | cons h2 t =>
          cases t with
          | cons h3 t =>
            cases t
            exact ⟨_, _, _, rfl, h1, h2, h3⟩
    refine ⟨pt, _, rfl, SqT.of ht, rfl, _, _, rfl, _, _, rfl, _, _, rfl, rfl, ?_⟩
    refine ⟨_, rfl, Mu, _, .str (wordOf f), 0, du, rfl, rfl, fun z1 d1 => ?_⟩
    obtain rfl := d1.asStr
    refine ⟨rfl, fun zf => ⟨_, rfl, iteT ?_⟩, fun zf => ⟨_, rfl, iteF ?_⟩⟩
    · have ff : ¬ f = true := wsc.mp (V.str.inj zf)
      rw [if_neg ff] at q
      refine ⟨_, rfl, Mu, _, .str x, 1, du, rfl, rfl, fun z2 d2 => ?_⟩
      obtain rfl := d2.asStr
      refine ⟨_, rfl, make_scr wl r3 tk.co tk.cl fun a H1 s1 n1 sc => ⟨rfl, by show 3 ≤ sizeLine; decide, fun p np => ?_⟩⟩
      exact q _ _ (s1.trans (same_new np)) ⟨p, .ref a, rfl, (wl.same s1).new np, upd_same, sc.keep (.ofSame (same_new np))⟩
    · have ft : f = true := by
        cases f with
        | true => rfl
        | false => exact absurd rfl zf
      rw [if_pos ft] at q
      refine ⟨_, rfl, Mu, _, .str x, 1, du, rfl, rfl, fun z2 d2 => ?_⟩
      obtain rfl := d2.asStr
      refine ⟨_, rfl, make_ctx wl r1 tk.ro tk.rl fun a H1 s1 n1 ct => ⟨rfl, _, rfl, _, rfl, make_scr (wl.same s1) (r3.same s1) tk.co tk.cl fun b H2 s2 n2 sc => ⟨rfl, by show 5 ≤ sizeLine; decide, fun p np => ?_⟩⟩⟩
      have s12 := s1.trans s2
      exact q _ _ (s12.trans (same_new np)) ⟨p, .ref a, t2, .ref b, rfl, (wl.same s12).new np, upd_same, (ct.keep (.ofSame s2)).keep (.ofSame (same_new np)), r2.same (s12.trans (same_new np)), sc.keep (.ofSame (same_new np))⟩
end
end AG
namespace AG
open PySem PySem.Spec PyProof.Rows L2 TL
section
variable {P : Program} {w : World} {K : PySem.W.Frag} {mg : Str → Option Value} {base : Heap} {c : Cs}
/-! ### letters -/
def Abc (z : Str) : Prop := ∀ ch ∈ z.cps.toList, ch ∈ abc.cps.toList
theorem len_tl (z : Str) : (tl z).length = z.length := by
  show z.cps.toList.length = z.cps.size
  simp
theorem cutS_tl (z : Str) (lo hi : Option Int) : tl (cutS z lo hi) = cutG (tl z) lo hi := by
  unfold cutG
  rw [len_tl]
  rfl
theorem Abc.cut {z : Str} (h : Abc z) (lo hi : Option Int) : Abc (cutS z lo hi) := fun ch hc => by
  have hc : ch ∈ tl (cutS z lo hi) := hc
  rw [cutS_tl] at hc
  exact h ch (List.mem_of_mem_drop (List.mem_of_mem_take hc))
theorem Abc.app {y z : Str} (h : Abc y) (k : Abc z) : Abc (y ++ z) := fun ch hc => by
  have hc : ch ∈ tl (y ++ z) := hc
  rw [tl_append, List.mem_append] at hc
  exact hc.elim (h ch) (k ch)
theorem joinL_nil : ∀ l : List (List Nat), joinL [] l = l.flatten
  | [] => rfl
  | [p] => by simp [joinL]
  | p :: q :: r => by
    show p ++ ([] ++ joinL [] (q :: r)) = _
    rw [joinL_nil (q :: r), List.nil_append, ← List.flatten_cons]
theorem join_tl (zs : List Str) : tl (Txt.join "" zs) = (zs.map tl).flatten := by
  rw [join_eq, tl_join]
  exact joinL_nil _
theorem join_letters {zs : List Str} (h : ∀ z ∈ zs, ∃ ch ∈ abc.cps.toList, z = ⟨#[ch]⟩) : Abc (Txt.join "" zs) ∧ (Txt.join "" zs).length = zs.length := by
  constructor
  · intro ch hc
    have hc : ch ∈ tl (Txt.join "" zs) := hc
    rw [join_tl] at hc
    obtain ⟨l, hl, hc⟩ := List.mem_flatten.mp hc
    obtain ⟨z, hz, rfl⟩ := List.mem_map.mp hl
    obtain ⟨k, hk, rfl⟩ := h z hz
    have : ch ∈ [k] := hc
    rw [List.mem_singleton.mp this]
    exact hk
  · rw [← len_tl, join_tl]
    induction zs with
    | nil => rfl
    | cons z r ih =>
      obtain ⟨k, hk, rfl⟩ := h z (List.mem_cons_self ..)
      rw [List.map_cons, List.flatten_cons, List.length_append, ih fun y hy => h y (List.mem_cons_of_mem _ hy), List.length_cons]
      show 1 + r.length = _
      exact Nat.add_comm _ _
/-! ### _law_names -/
def spLNames : Sp := fun vs H Q _ => ∃ (Mu : Mut1) (B : Addr) (n : Nat), vs = [.ref B, .int (n : Nat)] ∧ Wl Mu H ∧ Bag Mu H B ∧ 1 ≤ n ∧ n ≤ 26 ∧
  ∀ (ns : List Str) p H', Wds Mu H' p ns → Kp (fun b => b = B) H H' → Bag Mu H' B → H p = none → Q (.ref p) H'
theorem sc__law_names : FnScope ["_law_bag_here", "_law_many", "_law_letters", "_law_k", "_law_stem", "_law_at", "_law_first"] ["_law_bag_here", "_law_many"] (defScope s__law_names) := ⟨rfl, rfl, rfl, by decide +kernel, rfl, by decide +kernel, by decide +kernel⟩
theorem ok__law_names (T : Txt w K mg c) : Def P w K mg base CX0 "_law_names" ["_law_bag_here", "_law_many"] 3 spLNames := by
  refine T.d__law_names.def_ sc__law_names (fun vs H Q E ⟨_, _, _, e, _⟩ => by rw [e]; rfl) (fun _ _ _ _ _ _ us hl => match us, hl with | [_, _], _ => rfl) fun f cdv A outer s H vs Q E hr h => ?_
  obtain ⟨Mu, B, n, rfl, wl, bg, l1, l2, q⟩ := h
  refine ⟨_, PSs.nox (pss_cons (ps_set (i := 2) sc__law_names.nd rfl (Or.inr rfl) pe_str)
      (pss_cons (ps_set (i := 4) sc__law_names.nd rfl (Or.inr rfl) (pe_join pe_str (pe_lc (own := [("_law_k", 3)]) (te := tCall spAny [] E0 (tCons (tVar 0) (tCons (tVar 2) tNil))) rfl sc__law_names.nd (pi_range1 (by rfl) T.n_range (pa_cons (dcall (ok__law_pull T) hr (by decide) pass0 (pa_cons (pv 0) (pa_cons pe_int pa_nil))) pa_nil)) (blkOk_by (N := ["_law_bag_here", "_law_many", "_law_letters", "_law_k", "_law_stem", "_law_at", "_law_first"]) (sc := (defScope s__law_names)) (by decide +kernel)) (fun _ _ _ _ _ => (pg_name (i := 3) sc__law_names.nd rfl (Or.inl rfl))) (fun _ _ _ _ _ => pts_nil) (fun _ _ _ _ _ => (dcall (ok__law_any T) hr (by decide) pass0 (pa_cons (pv 0) (pa_cons (pv 2) pa_nil)))))))
      (pss_cons (ps_asg (pe_tup (pa_cons (dcall (ok__law_pull T) hr (by decide) pass0 (pa_cons (pv 0) (pa_cons (pe_op op_add (len1 T.n_len (pa_cons (pv 4) pa_nil)) pe_int) pa_nil))) (pa_cons (dcall (ok__law_pull T) hr (by decide) pass0 (pa_cons (pv 0) (pa_cons pe_int pa_nil))) pa_nil))) (pg_tup rfl (pgs_cons (pg_name (i := 5) sc__law_names.nd rfl (Or.inr rfl)) (pgs_cons (pg_name (i := 6) sc__law_names.nd rfl (Or.inr rfl)) pgs_nil))))
      (pss_one (ps_ret (pe_lc (own := [("_law_k", 3)]) rfl sc__law_names.nd (pi_range1 (by rfl) T.n_range (pa_cons (pv 1) pa_nil)) (blkOk_by (N := ["_law_bag_here", "_law_many", "_law_letters", "_law_k", "_law_stem", "_law_at", "_law_first"]) (sc := (defScope s__law_names)) (by decide +kernel)) (fun _ _ _ _ _ => (pg_name (i := 3) sc__law_names.nd rfl (Or.inl rfl))) (fun _ _ _ _ _ => pts_nil) (fun _ _ _ _ _ => (pe_op op_add_str (pe_op op_add_str (pe_slice sl_str (pv 4) po_none (po_some (pv 5))) (pe_ix ix_str (pv 2) (pe_op op_mod (pe_callTy call_int1 (by rfl) T.n_int bb_int (pa_cons (pe_op op_add (pv 6) (pe_op op_mul pe_int (pv 3))) pa_nil)) pe_int) (fun _ _ => rfl))) (pe_slice sl_str (pv 4) (po_some (pv 5)) po_none))))))))), ?_⟩
  have mB := bg.mu
  refine ⟨⟨_, rfl⟩, _, rfl, Mu, B, 5, rfl, bg, by decide, by decide, fun r1 H1 r10 r11 k1 b1 => ?_⟩
  obtain ⟨m1, rfl⟩ := Int.eq_ofNat_of_zero_le r10
  refine ⟨_, rfl, by omega, by omega, fun D hD => ?_⟩
  have wl1 := wl.kp k1
  have bD := BagD.of b1 hD
  refine lc_any (n := m1) (walk_range (lo := 0) (n := m1)) (Mc := fun b => b = B) (Mu := Mu) (fun b e => e ▸ mB) wl1 hD (by omega) (fun i ds => ∃ zs : List Str, zs.length = i ∧ (∀ z ∈ zs, ∃ ch ∈ abc.cps.toList, z = ⟨#[ch]⟩) ∧ ds = zs.map PyData.str) ⟨[], rfl, fun _ h => (List.not_mem_nil h).elim, rfl⟩ (fun _ H => BagD Mu D B H) bD (fun _ _ _ b => b.upd) (fun _ _ _ _ => trivial) ?_ ?_
  · rintro i x H2' H2 ds add skip hi k2 wl2 hD2 bd2 ⟨zs, el, hz, rfl⟩ ⟨rfl, rfl⟩ ha -
    have bB := bd2.bg
    refine ⟨rfl, ?_⟩
    refine ⟨_, rfl, _, rfl, wi Mu D, B, .str abc, rfl, bB, .inr ⟨abc, rfl, by decide +kernel, by decide +kernel, fun ch hch H3 k3 b3 => ?_⟩⟩
    exact ha _ _ (.str ⟨#[ch]⟩) k3 (kp_same_at k3 (Ne.symm bd2.ne) hD2) (.str _) ⟨zs ++ [⟨#[ch]⟩], by rw [List.length_append, el]; rfl, fun z hzm => (List.mem_append.mp hzm).elim (hz z) fun hzm => ⟨ch, hch, List.mem_singleton.mp hzm⟩, by rw [List.map_append]; rfl⟩ ⟨bd2.ne, b3⟩
  · rintro H2 xs ds k2 hx r2 ⟨zs, el, hz, rfl⟩ bd2 mD
    have ex := dats_strs_eq r2
    subst ex
    obtain ⟨ab, ln⟩ := join_letters hz
    rw [el] at ln
    have b2 := bd2.out mB
    have wl2 := wl1.kp k2
    have sum1 : ∀ l : List Str, (∀ z ∈ l, ∃ ch ∈ abc.cps.toList, z = ⟨#[ch]⟩) → (l.map (·.length)).sum = l.length := fun l => by
      induction l with
      | nil => exact fun _ => rfl
      | cons z r ih =>
        intro h
        obtain ⟨k, _, rfl⟩ := h z (List.mem_cons_self ..)
        rw [List.map_cons, List.sum_cons, ih fun y hy => h y (List.mem_cons_of_mem _ hy), List.length_cons]
        show 1 + r.length = _
        exact Nat.add_comm _ _
    refine ⟨"", D, zs, rfl, rfl, .inl (SqL.of hx), ?_, ?_⟩
    · rw [sum1 zs hz, el]
      have : ("" : Str).length = 0 := rfl
      rw [this]
      omega
    generalize Txt.join "" zs = stem at ab ln
    have hs4 : stem.length ≤ 4 := by omega
    refine ⟨_, rfl, _, rfl, stem.length, ⟨Nat.le_trans hs4 (by decide), rfl⟩, _, _, rfl, rfl, Mu, B, ((stem.length : Nat) : Int) + 1, rfl, b2, by omega, by omega, fun r3 H3 r30 r31 k3 b3 => ?_⟩
    obtain ⟨at_, rfl⟩ := Int.eq_ofNat_of_zero_le r30
    refine ⟨_, rfl, Mu, B, 26, rfl, b3, by decide, by decide, fun r4 H4 r40 r41 k4 b4 => ⟨by show 2 ≤ sizeLine; decide, fun p np => ⟨_, _, rfl, SqT.of upd_same, rfl, _, _, rfl, _, _, rfl, rfl, ?_⟩⟩⟩
    have s5 : Same H4 (upd H4 p (.tup [V.int (at_ : Nat), .int r4])) := same_new np
    have k5 : Kp (fun b => b = B) H (upd H4 p (.tup [V.int (at_ : Nat), .int r4])) := kpS (((k1.trans k2).trans k3).trans k4) s5
    have b5 : Bag Mu (upd H4 p (.tup [V.int (at_ : Nat), .int r4])) B := b4.same s5
    generalize upd H4 p (.tup [V.int (at_ : Nat), .int r4]) = H5 at k5 b5 ⊢
    refine ⟨_, rfl, _, rfl, by omega, by omega, fun F hF => ?_⟩
    have wl5 := wl.kp k5
    refine lc_any (n := n) (walk_range (lo := 0) (n := n)) (Mc := fun _ => False) (Mu := Mu) (fun _ z => z.elim) wl5 hF (by omega) (fun i ds => ∃ ns : List Str, ns.length = i ∧ (∀ z ∈ ns, NameOk z) ∧ ds = ns.map PyData.str) ⟨[], rfl, fun _ h => (List.not_mem_nil h).elim, rfl⟩ (fun _ _ => True) trivial (fun _ _ _ _ => trivial) (fun _ _ _ _ => trivial) ?_ ?_
    · rintro i x H6' H6 ds add skip hi k6 wl6 hF6 - ⟨ns, el2, hn, rfl⟩ ⟨rfl, rfl⟩ ha -
      refine ⟨rfl, ?_⟩
      have hat : at_ ≤ stem.length := by omega
      obtain ⟨j, hj0, hj1⟩ : ∃ j : Nat, ((r4 + 5 * (0 + (i : Int))) % 26) = (j : Int) ∧ j < 26 := by
        obtain ⟨j, hj⟩ := Int.eq_ofNat_of_zero_le (Int.emod_nonneg (r4 + 5 * (0 + (i : Int))) (show (26 : Int) ≠ 0 by decide))
        have := Int.emod_lt_of_pos (r4 + 5 * (0 + (i : Int))) (show (0 : Int) < 26 by decide)
        exact ⟨j, hj, by omega⟩
      have l26 : abc.cps.toList.length = 26 := by decide +kernel
      obtain ⟨ch, hch⟩ : ∃ ch, abc.cps.toList[j]? = some ch := ⟨_, List.getElem?_eq_getElem (by rw [l26]; exact hj1)⟩
      have mch : ch ∈ abc.cps.toList := List.mem_of_getElem? hch
      refine ⟨_, rfl, _, rfl, at_, rfl, stem, rfl, Nat.le_trans hs4 (by decide), ?_⟩
      refine ⟨_, rfl, _, rfl, _, rfl, _, _, rfl, rfl, .inl (by decide), _, _, rfl, rfl, .inl ⟨_, rfl, _, _, rfl, rfl, (show (0 : Int) < 26 by decide), ?_⟩⟩
      have lA : (cutS stem none (some (at_ : Int))).length = at_ := by
        rw [← len_tl, cutS_tl, cutG_take, List.length_take, len_tl]
        exact Nat.min_eq_left hat
      have lB : (cutS stem (some (at_ : Int)) none).length = stem.length - at_ := by
        rw [← len_tl, cutS_tl, cutG_drop, List.length_drop, len_tl]
      have aA := ab.cut none (some (at_ : Int))
      have aB := ab.cut (some (at_ : Int)) none
      generalize cutS stem none (some (at_ : Int)) = sA at lA aA ⊢
      have aC : Abc ⟨#[ch]⟩ := fun k hk => by
        have : k ∈ [ch] := hk
        rw [List.mem_singleton.mp this]
        exact mch
      have lC : (⟨#[ch]⟩ : Str).length = 1 := rfl
      have lAC : (sA ++ ⟨#[ch]⟩).length = at_ + 1 := by rw [Str.length_append, lA, lC]
      show rIxS (V.str abc) (V.int ((r4 + 5 * (0 + (i : Int))) % 26)) H6 _
      rw [hj0]
      refine ⟨abc, j, ch, rfl, rfl, by decide +kernel, atI_nat hch, sA, _, rfl, rfl, by rw [lA, lC]; exact Nat.le_trans (by omega : _ ≤ 5) (by decide), ?_⟩
      refine ⟨_, rfl, _, rfl, at_, rfl, stem, rfl, Nat.le_trans hs4 (by decide), ?_⟩
      generalize cutS stem (some (at_ : Int)) none = sB at lB aB ⊢
      refine ⟨sA ++ ⟨#[ch]⟩, sB, rfl, rfl, by rw [lAC, lB]; exact Nat.le_trans (by omega : _ ≤ 6) (by decide), ?_⟩
      refine ha _ _ (.str (sA ++ ⟨#[ch]⟩ ++ sB)) (.refl _) rfl (.str _) ⟨ns ++ [sA ++ ⟨#[ch]⟩ ++ sB], by rw [List.length_append, el2]; rfl, fun z hz => ?_, by rw [List.map_append]; rfl⟩ trivial
      rcases List.mem_append.mp hz with hz | hz
      · exact hn z hz
      · rw [List.mem_singleton.mp hz]
        exact ⟨by rw [Str.length_append, lAC]; omega, by rw [Str.length_append, lAC, lB]; omega, (aA.app aC).app aB⟩
    · rintro H6 xs ds k6 hx6 r6 ⟨ns, el2, hn, rfl⟩ - mF
      have ex := dats_strs_eq r6
      subst ex
      have s6 : Same H5 H6 := k6.same fun _ z => z
      exact q ns F H6 ⟨mF, hx6, by omega, by omega, hn⟩ (kpS k5 s6) (b5.same s6) (k5.fresh hF)
end
end AG
namespace AG
open PySem PySem.Spec PyProof.Rows L2
section
variable {P : Program} {w : World} {K : PySem.W.Frag} {mg : Str → Option Value} {base : Heap} {c : Cs}
/-! ### _law_entries -/
def spLEntries : Sp := fun vs H Q _ => ∃ (Mu : Mut1) (B na wa : Addr) (ns ws : List Str) (n : Nat), vs = [.ref B, .ref na, .ref wa, .int (n : Nat)] ∧ Wl Mu H ∧ Bag Mu H B ∧ Wds Mu H na ns ∧ Wds Mu H wa ws ∧ n ≤ 8 ∧
  ∀ (st : List Thing) p H', st.length = n → (∀ t ∈ st, ThingOk t) → Kp (fun b => b = B) H H' → Bag Mu H' B → Dat Mu H' (.ref p) (.list (st.map Thing.d)) → H p = none → Q (.ref p) H'
theorem sc__law_entries : FnScope ["_law_bag_here", "_law_names_here", "_law_words", "_law_many", "_law_found", "_law_k", "_law_rows_here", "_law_goal", "_law_commands"] ["_law_bag_here", "_law_names_here", "_law_words", "_law_many"] (defScope s__law_entries) := ⟨rfl, rfl, rfl, by decide +kernel, rfl, by decide +kernel, by decide +kernel⟩
theorem ok__law_entries (T : Txt w K mg c) : Def P w K mg base CX0 "_law_entries" ["_law_bag_here", "_law_names_here", "_law_words", "_law_many"] 7 spLEntries := by
  refine T.d__law_entries.def_ sc__law_entries (fun vs H Q E ⟨_, _, _, _, _, _, _, e, _⟩ => by rw [e]; rfl) (fun _ _ _ _ _ _ us hl => match us, hl with | [_, _, _, _], _ => rfl) fun f cdv A outer s H vs Q E hr h => ?_
  obtain ⟨Mu, B, na, wa, ns, ws, n, rfl, wl, bg, nd, wd, hn, q⟩ := h
  refine ⟨_, PSs.nox (pss_cons (ps_set (i := 4) sc__law_entries.nd rfl (Or.inl rfl) (pe_lst pa_nil))
      (pss_cons (ps_for PassesOwn.never rfl (pi_range1 (by rfl) T.n_range (pa_cons (pv 3) pa_nil)) (pg_name (i := 5) sc__law_entries.nd rfl (Or.inl rfl)) (pss_cons (ps_par (i := 6) (j := 7) rfl sc__law_entries.nd rfl rfl (by decide) rfl rfl (pa_cons (dcall (ok__law_rows T) hr (by decide) pass0 (pa_cons (pv 0) (pa_cons (pv 1) (pa_cons (pv 2) (pa_cons (dcall (ok__law_pull T) hr (by decide) pass0 (pa_cons (pv 0) (pa_cons pe_int pa_nil))) pa_nil))))) (pa_cons (dcall (ok__law_form T 1) hr (by decide) pass0 (pa_cons (pv 0) (pa_cons (pv 2) (pa_cons pe_int pa_nil)))) pa_nil)) rfl)
      (pss_cons (ps_set (i := 8) sc__law_entries.nd rfl (Or.inl rfl) (dcall (ok__law_any T) hr (by decide) pass0 (pa_cons (pv 0) (pa_cons (pe_lst (pa_cons (pe_lst (pa_cons (pe_tup (pa_cons pe_str (pa_cons (pe_tup (pa_cons pe_str pa_nil)) pa_nil))) pa_nil)) (pa_cons (pe_lst (pa_cons (pe_tup (pa_cons pe_str (pa_cons (pe_tup (pa_cons pe_str (pa_cons pe_int pa_nil))) pa_nil))) pa_nil)) (pa_cons (pe_lst pa_nil) (pa_cons (pe_lst (pa_cons (pe_tup (pa_cons pe_str (pa_cons (pe_lst (pa_cons (pe_tup (pa_cons pe_str (pa_cons (pe_ix ix_dat (pv 1) pe_int (fun _ _ => rfl)) pa_nil))) pa_nil)) pa_nil))) pa_nil)) pa_nil))))) pa_nil))))
      (pss_cons (ps_if (pt_cmpR op_eqC (dcall (ok__law_pull T) hr (by decide) pass0 (pa_cons (pv 0) (pa_cons pe_int pa_nil))) pe_int (nomark _)) (pss_one (ps_set (i := 8) sc__law_entries.nd rfl (Or.inl rfl) (pe_op op_cat (pe_lst (pa_cons (dcall (ok__law_any T) hr (by decide) pass0 (pa_cons (pv 0) (pa_cons (pe_lst (pa_cons (pe_tup (pa_cons pe_str (pa_cons (dcall (ok__law_any T) hr (by decide) pass0 (pa_cons (pv 0) (pa_cons (pv 1) pa_nil))) pa_nil))) (pa_cons (pe_tup (pa_cons pe_str (pa_cons (pe_lst (pa_cons (pe_tup (pa_cons pe_str (pa_cons (dcall (ok__law_any T) hr (by decide) pass0 (pa_cons (pv 0) (pa_cons (pv 1) pa_nil))) pa_nil))) pa_nil)) pa_nil))) pa_nil))) pa_nil))) pa_nil)) (pv 8)))) pss_nil)
      (pss_one (ps_expr (pe_bm PySem.F.plainAttrs_list PySem.F.slot_list_append PySem.F.type_list_append mt_append (pv 4) (pa_cons (pe_tup (pa_cons (pv 6) (pa_cons (pv 7) (pa_cons (pv 8) pa_nil)))) pa_nil))))))))
      (pss_one (ps_ret (pv 4))))), ?_⟩
  have mB := bg.mu
  refine ⟨Nat.zero_le _, fun F hF => ?_⟩
  have s1 : Same H (upd H F (.lst [])) := same_new hF
  have hF1 : upd H F (.lst []) F = some (.lst []) := upd_same
  have gF : ∀ b, wi Mu F b → Mu b ∨ H b = none := fun b m => m.imp id fun e => by rw [show b = F from e]; exact hF
  have bF : BagD Mu F B (upd H F (.lst [])) := (BagD.of bg hF).upd
  generalize upd H F (.lst []) = H1 at s1 hF1 bF ⊢
  have nd1 : Wds (wi Mu F) H1 na ns := (nd.grow gF).keep (.ofSame s1)
  have wd1 : Wds (wi Mu F) H1 wa ws := (wd.grow gF).keep (.ofSame s1)
  have wl1 : Wl (wi Mu F) H1 := (wl.same s1).wi (by rw [hF1]; exact fun z => by cases z)
  refine ⟨_, rfl, _, rfl, by omega, by omega, ?_⟩
  refine for_it (walk_range (lo := 0) (n := n)) (fun i σ Hj => ∃ (sts : List Thing) (xs : List V) (x5 x6 x7 x8 : Option V), σ = [some (.ref B), some (.ref na), some (.ref wa), some (.int (n : Nat)), some (.ref F), x5, x6, x7, x8] ∧ sts.length = i ∧ (∀ t ∈ sts, ThingOk t) ∧ Kp (wi (fun b => b = B) F) H1 Hj ∧ Hj F = some (.lst xs) ∧ Dats (wi Mu F) Hj xs (sts.map Thing.d) ∧ BagD Mu F B Hj)
    ⟨[], [], _, _, _, _, rfl, rfl, fun _ h => (List.not_mem_nil h).elim, .refl _, hF1, .nil, bF⟩ (fun _ _ _ _ _ => trivial) ?_ ?_
  · rintro i x0 σ Hj' Hj hi ⟨sts, xs, x5, x6, x7, x8, rfl, el, oks, kj, hFj, rj, bj⟩ ⟨rfl, rfl⟩
    have kU : Kp (wi Mu F) H1 Hj := kj.wide fun b m => m.imp (fun e => (show b = B from e) ▸ mB) id
    have ndj := nd1.keep kU
    have wdj := wd1.keep kU
    have wlj := wl1.kp kU
    have mBF : wi Mu F B := bj.bg.mu
    refine ⟨_, rfl, _, rfl, _, rfl, _, rfl, wi Mu F, B, 3, rfl, bj.bg, by decide, by decide, fun r Ha r0 r1 ka ba => ?_⟩
    obtain ⟨m, rfl⟩ := Int.eq_ofNat_of_zero_le r0
    have nda := ndj.keep (kpB mBF ka)
    have wda := wdj.keep (kpB mBF ka)
    refine ⟨wi Mu F, B, na, wa, ns, ws, m, rfl, wlj.kp ka, ba, nda, wda, by omega, fun rs pr Hb lr okr kb bb dr _ => ?_⟩
    have kab := ka.trans kb
    have ndb := ndj.keep (kpB mBF kab)
    have wdb := wdj.keep (kpB mBF kab)
    refine ⟨_, rfl, _, rfl, wi Mu F, B, wa, ws, rfl, wlj.kp kab, bb, wdb, fun g vg Hc og dg kc bc dgv => ⟨_, _, rfl, ?_⟩⟩
    have kac := kab.trans kc
    have drc := dr.keep (kpB mBF kc)
    have ndc := ndj.keep (kpB mBF kac)
    have wlc := wlj.kp kac
    refine nx_of ?_
    -- the commands
    refine seq_mid (fun σ' H' => ∃ (cs : List Cm) (v : V), σ' = [some (.ref B), some (.ref na), some (.ref wa), some (.int (n : Nat)), some (.ref F), some (.int (0 + (i : Int))), some (.ref pr), some vg, some v] ∧ Kp (fun b => b = B) Hc H' ∧ Bag (wi Mu F) H' B ∧ cs.length ≤ 1 ∧ (∀ d ∈ cs, d.ok) ∧ Dat (wi Mu F) H' v (.list (cs.map Cm.law))) (fun N hN => ?_) ?_
    · obtain ⟨y, hy⟩ : ∃ y, ns[0]? = some y := ⟨_, List.getElem?_eq_getElem (by have := nd.2.2.1; omega)⟩
      have ny : NameOk y := nd.2.2.2.2 y (List.mem_of_getElem? hy)
      refine ⟨_, rfl, (by show 1 ≤ sizeLine; decide), fun p1 n1 => ⟨(by show 2 ≤ sizeLine; decide), fun p2 n2 => ⟨(by show 1 ≤ sizeLine; decide), fun l1 m1 => ?_⟩⟩⟩
      obtain ⟨t1, d1⟩ := tup_at wlc (.cons (.str "goal") .nil) n1
      obtain ⟨t2, d2⟩ := tup_at (wlc.same t1) (.cons (.str "exact") (.cons d1 .nil)) n2
      obtain ⟨u1, e1⟩ := lst_at ((wlc.same t1).same t2) (.cons d2 .nil) m1
      have f1 : Dat (wi Mu F) _ (.ref l1) (.list ([Cm.one .exg].map Cm.law)) := e1
      have s2 := (t1.trans t2).trans u1
      generalize upd (upd (upd Hc p1 (.tup [V.str "goal"])) p2 (.tup [V.str "exact", .ref p1])) l1 (.lst [V.ref p2]) = H2 at f1 s2 ⊢
      have wl2 := wlc.same s2
      refine ⟨(by show 2 ≤ sizeLine; decide), fun p3 n3 => ⟨(by show 2 ≤ sizeLine; decide), fun p4 n4 => ⟨(by show 1 ≤ sizeLine; decide), fun l2 m2 => ⟨Nat.zero_le _, fun l3 m3 => ?_⟩⟩⟩⟩
      obtain ⟨t3, d3⟩ := tup_at wl2 (.cons (.str "newest") (.cons (.int 1) .nil)) n3
      obtain ⟨t4, d4⟩ := tup_at (wl2.same t3) (.cons (.str "exact") (.cons d3 .nil)) n4
      obtain ⟨u2, e2⟩ := lst_at ((wl2.same t3).same t4) (.cons d4 .nil) m2
      obtain ⟨u3, e3⟩ := lst_at (((wl2.same t3).same t4).same u2) .nil m3
      have f2 : Dat (wi Mu F) _ (.ref l2) (.list ([Cm.one .exn].map Cm.law)) := e2.same u3
      have f3 : Dat (wi Mu F) _ (.ref l3) (.list (([] : List Cm).map Cm.law)) := e3
      have s3 := ((t3.trans t4).trans u2).trans u3
      generalize upd (upd (upd (upd H2 p3 (.tup [V.str "newest", .int 1])) p4 (.tup [V.str "exact", .ref p3])) l2 (.lst [V.ref p4])) l3 (.lst []) = H3 at f2 f3 s3 ⊢
      have wl3 := wl2.same s3
      have dn3 : Dat (wi Mu F) H3 (.ref na) (.list (ns.map PyData.str)) := (Dat.lst ndc.1 ndc.2.1 (dats_strs ns)).same (s2.trans s3)
      refine ⟨_, rfl, wi Mu F, _, .str y, 0, dn3, rfl, by show (ns.map PyData.str)[0]? = some (PyData.str y); rw [List.getElem?_map, hy]; rfl, fun zy dy => ?_⟩
      obtain rfl := dy.asStr
      refine ⟨(by show 2 ≤ sizeLine; decide), fun p5 n5 => ⟨(by show 1 ≤ sizeLine; decide), fun l5 m5 => ⟨(by show 2 ≤ sizeLine; decide), fun p6 n6 => ⟨(by show 1 ≤ sizeLine; decide), fun l4 m4 => ⟨(by show 4 ≤ sizeLine; decide), fun L nL => ?_⟩⟩⟩⟩⟩
      obtain ⟨t5, d5⟩ := tup_at wl3 (.cons (.str "intro") (.cons (.str y) .nil)) n5
      obtain ⟨u5, e5⟩ := lst_at (wl3.same t5) (.cons d5 .nil) m5
      obtain ⟨t6, d6⟩ := tup_at ((wl3.same t5).same u5) (.cons (.str "try") (.cons e5 .nil)) n6
      obtain ⟨u4, e4⟩ := lst_at (((wl3.same t5).same u5).same t6) (.cons d6 .nil) m4
      have f4 : Dat (wi Mu F) _ (.ref l4) (.list ([Cm.att (.intro y)].map Cm.law)) := e4
      have s4 := ((t5.trans u5).trans t6).trans u4
      generalize upd (upd (upd (upd H3 p5 (.tup [V.str "intro", .str y])) l5 (.lst [V.ref p5])) p6 (.tup [V.str "try", .ref l5])) l4 (.lst [V.ref p6]) = H4 at f4 s4 nL ⊢
      have s5 : Same H4 (upd H4 L (.lst [V.ref l1, .ref l2, .ref l3, .ref l4])) := same_new nL
      have hL : upd H4 L (.lst [V.ref l1, .ref l2, .ref l3, .ref l4]) L = some (.lst [V.ref l1, .ref l2, .ref l3, .ref l4]) := upd_same
      have nLB : L ≠ B := fun z => by
        have bL := ((bc.same s2).same s3).same s4
        obtain ⟨_, _, _, _, _, _, _, h1, _⟩ := bL
        rw [z, h1] at nL
        cases nL
      generalize upd H4 L (.lst [V.ref l1, .ref l2, .ref l3, .ref l4]) = H5 at s5 hL ⊢
      have sc5 := ((s2.trans s3).trans s4).trans s5
      refine ⟨wi Mu F, B, .ref L, rfl, bc.same sc5, .inl ⟨L, _, rfl, nLB, hL, by simp, by simp, fun v hv H' k' b' => ?_⟩⟩
      have keep : ∀ {v : V} {d : PyData}, Dat (wi Mu F) H5 v d → Dat (wi Mu F) H' v d := fun d => d.keep (kpB mBF k')
      have kk : Kp (fun b => b = B) Hc H' := (Kp.ofSame sc5).trans k'
      have cases4 : v = .ref l1 ∨ v = .ref l2 ∨ v = .ref l3 ∨ v = .ref l4 := by simpa using hv
      rcases cases4 with rfl | rfl | rfl | rfl
      · exact hN _ _ ⟨_, _, rfl, kk, b', Nat.le_refl _, fun d hd => by rw [List.mem_singleton.mp hd]; exact trivial, keep (((f1.same s3).same s4).same s5)⟩
      · exact hN _ _ ⟨_, _, rfl, kk, b', Nat.le_refl _, fun d hd => by rw [List.mem_singleton.mp hd]; exact trivial, keep ((f2.same s4).same s5)⟩
      · exact hN _ _ ⟨_, _, rfl, kk, b', Nat.zero_le _, fun d hd => (List.not_mem_nil hd).elim, keep ((f3.same s4).same s5)⟩
      · exact hN _ _ ⟨_, _, rfl, kk, b', Nat.le_refl _, fun d hd => by rw [List.mem_singleton.mp hd]; exact ny, keep (f4.same s5)⟩
    rintro σ Hd ⟨cs, v8, rfl, kd, bd, lcs, okc, dcs⟩
    have kad := kac.trans kd
    have ndd := ndj.keep (kpB mBF kad)
    have wld := wlj.kp kad
    -- some recall
    refine seq_mid (fun σ' H' => ∃ (cs : List Cm) (v : V), σ' = [some (.ref B), some (.ref na), some (.ref wa), some (.int (n : Nat)), some (.ref F), some (.int (0 + (i : Int))), some (.ref pr), some vg, some v] ∧ Kp (fun b => b = B) Hc H' ∧ Bag (wi Mu F) H' B ∧ cs.length ≤ 2 ∧ (∀ d ∈ cs, d.ok) ∧ Dat (wi Mu F) H' v (.list (cs.map Cm.law))) (fun N hN => ?_) ?_
    · refine ⟨_, rfl, wi Mu F, B, 2, rfl, bd, by decide, by decide, fun r2 He r20 r21 ke be => ?_⟩
      have kde := kd.trans ke
      have dce := dcs.keep (kpB mBF ke)
      refine ⟨rfl, fun _ => ⟨_, rfl, iteT ?_⟩, fun _ => ⟨_, rfl, iteF (hN _ _ ⟨cs, _, rfl, kde, be, by omega, okc, dce⟩)⟩⟩
      have drawn : ∀ H', Kp (fun b => b = B) Hd H' → Bag (wi Mu F) H' B → ∀ Q : VK, (∀ y H'', NameOk y → Kp (fun b => b = B) H' H'' → Bag (wi Mu F) H'' B → Q (.str y) H'') → spAny [.ref B, .ref na] H' Q E0 := fun H' k' b' Qk hQ => by
        have ndn := ndd.keep (kpB mBF k')
        exact ⟨wi Mu F, B, .ref na, rfl, b', .inl ⟨na, _, rfl, fun z => ndn.1 (z ▸ mBF), ndn.2.1, by rw [List.length_map]; exact nd.2.2.1, by rw [List.length_map]; exact nd.2.2.2.1, fun x hx H'' k'' b'' => by
          obtain ⟨y, hy, rfl⟩ := List.mem_map.mp hx
          exact hQ y H'' (nd.2.2.2.2 y hy) k'' b''⟩⟩
      refine ⟨_, rfl, _, rfl, _, rfl, drawn He ke be _ fun y1 H1' ny1 k1' b1' => ⟨(by show 2 ≤ sizeLine; decide), fun q1 n1 => ?_⟩⟩
      have wl1' : Wl (wi Mu F) H1' := wld.kp (ke.trans k1')
      obtain ⟨t1, d1⟩ := tup_at wl1' (.cons (.str "recall") (.cons (.str y1) .nil)) n1
      have b2' := b1'.same t1
      have k2' := kpS (ke.trans k1') t1
      generalize upd H1' q1 (.tup [V.str "recall", .str y1]) = H2 at t1 d1 b2' k2' ⊢
      refine ⟨_, rfl, _, rfl, drawn H2 k2' b2' _ fun y2 H3 ny2 k3 b3 => ⟨(by show 2 ≤ sizeLine; decide), fun q2 n2 => ⟨(by show 1 ≤ sizeLine; decide), fun q3 n3 => ⟨(by show 2 ≤ sizeLine; decide), fun q4 n4 => ⟨(by show 2 ≤ sizeLine; decide), fun L nL => ?_⟩⟩⟩⟩⟩
      have k23 := k2'.trans k3
      have wl3 : Wl (wi Mu F) H3 := wld.kp k23
      have d13 := d1.keep (kpB mBF k3)
      obtain ⟨t2, d2⟩ := tup_at wl3 (.cons (.str "recall") (.cons (.str y2) .nil)) n2
      obtain ⟨t3, d3⟩ := lst_at (wl3.same t2) (.cons d2 .nil) n3
      obtain ⟨t4, d4⟩ := tup_at ((wl3.same t2).same t3) (.cons (.str "try") (.cons d3 .nil)) n4
      have st := (t2.trans t3).trans t4
      generalize upd (upd (upd H3 q2 (.tup [V.str "recall", .str y2])) q3 (.lst [V.ref q2])) q4 (.tup [V.str "try", .ref q3]) = H4 at t4 d4 st nL ⊢
      have s5 : Same H4 (upd H4 L (.lst [V.ref q1, .ref q4])) := same_new nL
      have hL : upd H4 L (.lst [V.ref q1, .ref q4]) L = some (.lst [V.ref q1, .ref q4]) := upd_same
      have nLB : L ≠ B := fun z => by
        have bL := b3.same st
        obtain ⟨_, _, _, _, _, _, _, h1, _⟩ := bL
        rw [z, h1] at nL
        cases nL
      generalize upd H4 L (.lst [V.ref q1, .ref q4]) = H5 at s5 hL ⊢
      have s35 := st.trans s5
      refine ⟨wi Mu F, B, .ref L, rfl, b3.same s35, .inl ⟨L, _, rfl, nLB, hL, by simp, by simp, fun v hv H6 k6 b6 => ?_⟩⟩
      obtain ⟨d0, od0, dd0⟩ : ∃ d0 : Cm, d0.ok ∧ Dat (wi Mu F) H6 v d0.law := by
        have two : v = .ref q1 ∨ v = .ref q4 := by simpa using hv
        rcases two with rfl | rfl
        · exact ⟨.one (.recall y1), ny1, (d13.same s35).keep (kpB mBF k6)⟩
        · exact ⟨.att (.recall y2), ny2, (d4.same s5).keep (kpB mBF k6)⟩
      have k26 : Kp (fun b => b = B) Hd H6 := (k23.trans (.ofSame s35)).trans k6
      have wl6 : Wl (wi Mu F) H6 := wld.kp k26
      refine ⟨(by show 1 ≤ sizeLine; decide), fun q7 n7 => ⟨_, rfl, ?_⟩⟩
      obtain ⟨t7, d7⟩ := lst_at wl6 (.cons dd0 .nil) n7
      have h7 : upd H6 q7 (.lst [v]) q7 = some (.lst [v]) := upd_same
      have dd7 := dd0.same t7
      have b7 := b6.same t7
      have k7 := kpS k26 t7
      generalize upd H6 q7 (.lst [v]) = H7 at t7 h7 dd7 b7 k7 ⊢
      have dc7 := dcs.keep (kpB mBF k7)
      obtain ⟨a8, x8, rfl, m8, h8, r8⟩ := dc7.asLst
      have l8 : x8.length = cs.length := r8.length.trans (List.length_map ..)
      refine ⟨q7, a8, [v], x8, rfl, rfl, h7, h8, Nat.le_trans (by show 1 + x8.length ≤ 2; omega) (by decide), fun q9 n9 => ?_⟩
      obtain ⟨t9, d9⟩ := lst_at (wld.kp k7) (.cons dd7 r8) n9
      exact hN _ _ ⟨d0 :: cs, _, rfl, kd.trans (kpS k7 t9), b7.same t9, by rw [List.length_cons]; omega, fun d hd => (List.mem_cons.mp hd).elim (fun e => e ▸ od0) (okc d), d9⟩
    rintro σ He ⟨cs, v8, rfl, ke, be, lcs, okc, dcs⟩
    -- one more
    have kae := kac.trans ke
    have hFe : He F = some (.lst xs) := kae.at_ _ _ (fun z => bj.ne (show F = B from z).symm) hFj
    have wle := wlj.kp kae
    refine ⟨_, rfl, .inl ⟨rfl, _, SqL.of hFe⟩, _, rfl, _, rfl, _, rfl, (by show 3 ≤ sizeLine; decide), fun p np => ?_⟩
    obtain ⟨t, d⟩ := tup_at wle (.cons (drc.keep (kpB mBF ke)) (.cons (dgv.keep (kpB mBF ke)) (.cons dcs .nil))) np
    have hFt := t _ _ hFe
    have lx : xs.length = i := by rw [rj.length, List.length_map, el]
    refine ⟨F, xs, _, rfl, rfl, hFt, Nat.lt_of_lt_of_le (by omega : xs.length < 8) (by decide), sts ++ [⟨rs, g, cs⟩], xs ++ [.ref p], _, _, _, _, rfl, by rw [List.length_append, el]; rfl, fun x hx => ?_, ?_, upd_same, ?_, ?_⟩
    · rcases List.mem_append.mp hx with hx | hx
      · exact oks x hx
      · rw [List.mem_singleton.mp hx]
        exact ⟨okr, by show rs.length ≤ 8; omega, og, by show g.deep ≤ 3; omega, okc, by show cs.length ≤ 8; omega⟩
    · exact ((kj.trans ((kae.trans (.ofSame t)).wide fun b m => .inl m))).trans (kp_upd (.inr rfl))
    · rw [List.map_append]
      exact ((rj.keep ((kpB mBF kae).trans (.ofSame t))).app (.cons d .nil)).keep (kp_upd (.inr rfl))
    · exact (BagD.mk bj.ne (be.same t)).upd
  · rintro σ Hj ⟨sts, xs, x5, x6, x7, x8, rfl, el, oks, kj, hFj, rj, bj⟩
    have kH : Kp (fun b => b = B) H Hj := ⟨fun b o nb e => kj.at_ b o (fun z => z.elim nb (fun z => ne_of_none e hF z)) (s1 b o e), fun b hb => kj.there b fun z => hb (s1.free z)⟩
    exact ⟨_, rfl, q sts F Hj el oks kH (bj.out mB) (.lst (wl.new hF) hFj (rj.less fun b m => .inl m)) hF⟩
end
end AG
namespace AG
open PySem PySem.Spec PyProof.Rows L2
/-! ### two values that are alike -/
/-- small data, at most so deep -/
def Sm : Nat → PyData → Prop
  | 0, _ => False
  | n + 1, .list ds => ds.length ≤ 100 ∧ ∀ d ∈ ds, Sm n d
  | n + 1, .tuple ds => ds.length ≤ 100 ∧ ∀ d ∈ ds, Sm n d
  | _ + 1, .dict _ => False
  | _ + 1, _ => True
inductive Atm : V → Prop where
  | non : Atm .non
  | bl (b : Bool) : Atm (.bl b)
  | int (i : Int) : Atm (.int i)
  | str (x : Str) : Atm (.str x)
structure Fsm (n : Nat) (fs : List Fact) : Prop where
  nd : (fs.map Prod.fst).Nodup
  nm : ∀ f ∈ fs, NameOk f.1
  le : fs.length ≤ 50
  sm : ∀ f ∈ fs, Sm n f.2.d
def Lk (H : Hp) : Nat → V → V → Prop
  | 0, _, _ => False
  | n + 1, v, u => (v = u ∧ Atm v) ∨ (∃ a b xs ys, v = .ref a ∧ u = .ref b ∧ H a = some (.lst xs) ∧ H b = some (.lst ys) ∧ xs.length ≤ 100 ∧ Paired (Lk H n) xs ys) ∨
    (∃ a b xs ys, v = .ref a ∧ u = .ref b ∧ H a = some (.tup xs) ∧ H b = some (.tup ys) ∧ xs.length ≤ 100 ∧ Paired (Lk H n) xs ys) ∨
    ∃ (Mu : Mut1) (p q : Addr) (fs : List Fact), v = .ref p ∧ u = .ref q ∧ p ≠ q ∧ Fcts Mu H p fs ∧ Fcts Mu H q fs ∧ Fsm n fs
theorem paired_imp {α β : Type} {R S : α → β → Prop} (f : ∀ a b, R a b → S a b) : ∀ {xs : List α} {ys : List β}, Paired R xs ys → Paired S xs ys
  | _, _, .nil => .nil
  | _, _, .cons h t => .cons (f _ _ h) (paired_imp f t)
theorem paired_len {α β : Type} {R : α → β → Prop} : ∀ {xs : List α} {ys : List β}, Paired R xs ys → xs.length = ys.length
  | _, _, .nil => rfl
  | _, _, .cons _ t => congrArg Nat.succ (paired_len t)
theorem paired_at {α β : Type} {R : α → β → Prop} : ∀ {xs : List α} {ys : List β} {i : Nat} {x : α} {y : β}, Paired R xs ys → xs[i]? = some x → ys[i]? = some y → R x y
  | _, _, _, _, _, .nil, e, _ => by simp at e
  | _, _, 0, _, _, .cons h _, e, e2 => by
    cases e
    cases e2
    exact h
  | _, _, i + 1, x, y, .cons _ t, e, e2 => paired_at (i := i) t e e2
theorem Fcts.same {Mu : Mut1} {H H' : Hp} (s : Same H H') {p : Addr} {fs : List Fact} (h : Fcts Mu H p fs) : Fcts Mu H' p fs := h.keep (.ofSame s)
theorem Lk.same {H H' : Hp} (s : Same H H') : ∀ {n : Nat} {v u : V}, Lk H n v u → Lk H' n v u
  | 0, _, _, h => h
  | n + 1, v, u, h => by
    rcases h with h | ⟨a, b, xs, ys, e1, e2, h1, h2, l, r⟩ | ⟨a, b, xs, ys, e1, e2, h1, h2, l, r⟩ | ⟨Mu, p, q, fs, e1, e2, ne, h1, h2, sm⟩
    · exact .inl h
    · exact .inr (.inl ⟨a, b, xs, ys, e1, e2, s _ _ h1, s _ _ h2, l, paired_imp (fun _ _ z => Lk.same s z) r⟩)
    · exact .inr (.inr (.inl ⟨a, b, xs, ys, e1, e2, s _ _ h1, s _ _ h2, l, paired_imp (fun _ _ z => Lk.same s z) r⟩))
    · exact .inr (.inr (.inr ⟨Mu, p, q, fs, e1, e2, ne, Fcts.same s h1, Fcts.same s h2, sm⟩))
theorem lk_dat {Mu : Mut1} {H : Hp} : ∀ {n : Nat} {d : PyData} {v u : V}, Sm n d → Dat Mu H v d → Dat Mu H u d → Lk H n v u
  | 0, _, _, _, h, _, _ => h
  | n + 1, d, v, u, h, a, b => by
    have all : ∀ {ds : List PyData} {xs ys : List V}, (∀ d ∈ ds, Sm n d) → Dats Mu H xs ds → Dats Mu H ys ds → Paired (Lk H n) xs ys := fun {ds} => by
      induction ds with
      | nil =>
        intro xs ys _ r1 r2
        cases r1
        cases r2
        exact .nil
      | cons d r ih =>
        intro xs ys sm r1 r2
        cases r1 with
        | cons h1 t1 =>
          cases r2 with
          | cons h2 t2 => exact .cons (lk_dat (sm d (List.mem_cons_self ..)) h1 h2) (ih (fun e he => sm e (List.mem_cons_of_mem _ he)) t1 t2)
    cases a with
    | non =>
      cases b
      exact .inl ⟨rfl, .non⟩
    | bl k =>
      cases b
      exact .inl ⟨rfl, .bl k⟩
    | int i =>
      cases b
      exact .inl ⟨rfl, .int i⟩
    | str x =>
      cases b
      exact .inl ⟨rfl, .str x⟩
    | lst m1 h1 r1 =>
      cases b with
      | lst m2 h2 r2 => exact .inr (.inl ⟨_, _, _, _, rfl, rfl, h1, h2, by rw [r1.length]; exact h.1, all h.2 r1 r2⟩)
    | tup m1 h1 r1 =>
      cases b with
      | tup m2 h2 r2 => exact .inr (.inr (.inl ⟨_, _, _, _, rfl, rfl, h1, h2, by rw [r1.length]; exact h.1, all h.2 r1 r2⟩))
theorem walk_zipT {K : PySem.W.Frag} {a b : Addr} {xs ys : List V} {n : Nat} (hn : n = min xs.length ys.length) : Walk (RZ.ItzT K a b) n (fun H => SqT K H a xs ∧ SqT K H b ys) (YPair (fun i => xs[i]?) (fun i => ys[i]?)) := by
  refine ⟨fun i H hi q => ⟨xs, ys, xs[i]'(by omega), ys[i]'(by omega), q.1, q.2, List.getElem?_eq_getElem (by omega), List.getElem?_eq_getElem (by omega)⟩, fun H q => ⟨xs, ys, q.1, q.2, by omega⟩, fun i H v H' hi q y => ?_⟩
  obtain ⟨T, x, z, h1, h2, h3, h4, h5⟩ := y
  exact ⟨T, x, z, h1, h2, h3, h4 xs q.1, h5 ys q.2⟩
theorem same_but {H H' : Hp} {D : Addr} (k : Kp (wi (fun _ => False) D) H H') (n : H D = none) : Same H H' := fun b o e => k.at_ b o (fun z => z.elim (fun z => z) fun z => ne_of_none e n z) e
theorem KvF.keys {Mu : Mut1} {H : Hp} : ∀ {kvs : List (Key × V)} {fs : List Fact}, KvF Mu H kvs fs → kvs.map (·.1) = (fs.map Prod.fst).map Sum.inr
  | _, _, .nil => rfl
  | _, _, .cons h t => by
    rw [List.map_cons, KvF.keys t, h.1]
    rfl
theorem KvF.find {Mu : Mut1} {H : Hp} : ∀ {kvs : List (Key × V)} {fs : List Fact} {i : Nat} {f : Fact}, KvF Mu H kvs fs → (fs.map Prod.fst).Nodup → fs[i]? = some f → ∃ v, valV kvs (Sum.inr f.1) = some v ∧ Dat Mu H v f.2.d
  | _, _, _, _, .nil, _, e => by simp at e
  | kv :: kvs, g :: fs, 0, f, .cons h t, _, e => by
    cases e
    obtain ⟨k, v⟩ := kv
    exact ⟨v, valV_pos h.1, h.2⟩
  | kv :: kvs, g :: fs, i + 1, f, .cons h t, nd, e => by
    have nd := List.nodup_cons.mp nd
    have e : fs[i]? = some f := e
    have ne : g.1 ≠ f.1 := fun z => nd.1 (z ▸ List.mem_map.mpr ⟨f, List.mem_of_getElem? e, rfl⟩)
    obtain ⟨v, hv, dv⟩ := KvF.find t nd.2 e
    obtain ⟨k, v0⟩ := kv
    exact ⟨v, by rw [valV_neg (by rw [h.1]; exact fun z => ne (Sum.inr.inj z))]; exact hv, dv⟩
section
variable {P : Program} {w : World} {K : PySem.W.Frag} {mg : Str → Option Value} {base : Heap} {c : Cs}
/-! ### _law_like -/
def spLk (n : Nat) : Sp := fun vs H Q _ => ∃ (v u : V), vs = [v, u] ∧ Lk H n v u ∧ ∀ H', Same H H' → Q (.bl true) H'
theorem sc__law_like : FnScope ["_law_found", "_law_due_here", "_law_key", "_law_one", "_law_other"] ["_law_found", "_law_due_here"] (defScope s__law_like) := ⟨rfl, rfl, rfl, by decide +kernel, rfl, by decide +kernel, by decide +kernel⟩
theorem ok__law_like (T : Txt w K mg c) : ∀ n, Def P w K mg base CX0 "_law_like" ["_law_found", "_law_due_here"] (n + 1) (spLk n)
  | 0 => by
    refine T.d__law_like.def_ sc__law_like (fun vs H Q E ⟨_, _, e, _⟩ => by rw [e]; rfl) (fun _ _ _ _ _ _ us hl => match us, hl with | [_, _], _ => rfl) fun f cdv A outer s H vs Q E hr h => ?_
    obtain ⟨v, u, rfl, h, q⟩ := h
    exact h.elim
  | n + 1 => by
    refine T.d__law_like.def_ sc__law_like (fun vs H Q E ⟨_, _, e, _⟩ => by rw [e]; rfl) (fun _ _ _ _ _ _ us hl => match us, hl with | [_, _], _ => rfl) fun f cdv A outer s H vs Q E hr h => ?_
    obtain ⟨v, u, rfl, h, q⟩ := h
    have hu := hu_of hr
    refine ⟨_, PSs.nox (pss_cons (ps_if (pt_val (isi .dict T.n_isinstance (pa_cons (pv 1) (pa_cons (gty .dict T.n_dict bb_dict) pa_nil)))) (pss_one (ps_ret (pe_and (isi .dict T.n_isinstance (pa_cons (pv 0) (pa_cons (gty .dict T.n_dict bb_dict) pa_nil))) (pe_and (pe_cmpR (op_eqD hr.units) (pe_callB cr_sortedS (by rfl) T.n_sorted (by decide +kernel) (pa_cons (pe_callTy (call_listD rfl) (by rfl) T.n_list bb_list (pa_cons (pv 0) pa_nil)) pa_nil)) (pe_callB cr_sortedS (by rfl) T.n_sorted (by decide +kernel) (pa_cons (pe_callTy (call_listD rfl) (by rfl) T.n_list bb_list (pa_cons (pv 1) pa_nil)) pa_nil)) (nomark _)) (pe_one (all1 rfl T.n_all (pa_cons (pe_lock (pe_lc (own := [("_law_key", 2)]) (te := tCall (spLk n) [] E0 (tCons (tDGet (tVar 0) (tVar 2)) (tCons (tDGet (tVar 1) (tVar 2)) tNil))) rfl sc__law_like.nd (pi_keys (pv 1)) (blkOk_by (N := ["_law_found", "_law_due_here", "_law_key", "_law_one", "_law_other"]) (sc := (defScope s__law_like)) (by decide +kernel)) (fun _ _ _ _ _ => (pg_name (i := 2) sc__law_like.nd rfl (Or.inl rfl))) (fun _ _ _ _ _ => pts_nil) (fun _ _ _ _ _ => (dcall (ok__law_like T n) hr (Nat.le_refl _) pass0 (pa_cons (pe_dget hu (pv 0) (pv 2) (fun _ _ => rfl)) (pa_cons (pe_dget hu (pv 1) (pv 2) (fun _ _ => rfl)) pa_nil)))))) pa_nil))))))) pss_nil)
      (pss_cons (ps_if (pt_val (isi2 .list .tuple T.n_isinstance (pa_cons (pv 1) (pa_cons (pe_tup (pa_cons (gty .list T.n_list bb_list) (pa_cons (gty .tuple T.n_tuple bb_tuple) pa_nil))) pa_nil)))) (pss_cons (ps_if (PW.pt (pw_or (pt_cmpR op_neC (isi .list T.n_isinstance (pa_cons (pv 0) (pa_cons (gty .list T.n_list bb_list) pa_nil))) (isi .list T.n_isinstance (pa_cons (pv 1) (pa_cons (gty .list T.n_list bb_list) pa_nil))) (nomark _)) (pw_or1 (pt_cmpR op_neC (isi .tuple T.n_isinstance (pa_cons (pv 0) (pa_cons (gty .tuple T.n_tuple bb_tuple) pa_nil))) (isi .tuple T.n_isinstance (pa_cons (pv 1) (pa_cons (gty .tuple T.n_tuple bb_tuple) pa_nil))) (nomark _))))) (pss_one (ps_ret pe_bl)) pss_nil)
      (pss_one (ps_ret (pe_and (pe_cmpR op_eqC (len1 T.n_len (pa_cons (pv 0) pa_nil)) (len1 T.n_len (pa_cons (pv 1) pa_nil)) (nomark _)) (pe_one (all1 rfl T.n_all (pa_cons (pe_lc (own := [("_law_one", 3), ("_law_other", 4)]) (g := gTup K 2 (gCons (gName 3) (gCons (gName 4) gNil))) (te := tCall (spLk n) [] E0 (tCons (tVar 3) (tCons (tVar 4) tNil))) rfl sc__law_like.nd (RZ.pi_zipA (by rfl) T.n_zip (pa_cons (pv 0) (pa_cons (pv 1) pa_nil))) (blkOk_by (N := ["_law_found", "_law_due_here", "_law_key", "_law_one", "_law_other"]) (sc := (defScope s__law_like)) (by decide +kernel)) (fun _ _ _ _ _ => (pg_tup rfl (pgs_cons (pg_name (i := 3) sc__law_like.nd rfl (Or.inl rfl)) (pgs_cons (pg_name (i := 4) sc__law_like.nd rfl (Or.inl rfl)) pgs_nil)))) (fun _ _ _ _ _ => pts_nil) (fun _ _ _ _ _ => (dcall (ok__law_like T n) hr (Nat.le_refl _) pass0 (pa_cons (pv 3) (pa_cons (pv 4) pa_nil))))) pa_nil))))))) pss_nil)
      (pss_cons (ps_if (PW.pt (pw_or (pt_cmpR op_isN (pv 1) pe_non (nomark _)) (pw_or1 (pt_cmpR op_isN (pv 0) pe_non (nomark _))))) (pss_one (ps_ret (pe_and (pe_cmpR op_isN (pv 1) pe_non (nomark _)) (pe_one (pe_cmpR op_isN (pv 0) pe_non (nomark _)))))) pss_nil)
      (pss_cons (ps_if (PW.pt (pw_or (pt_cmpR op_neC (isi .bool T.n_isinstance (pa_cons (pv 0) (pa_cons (gty .bool T.n_bool bb_bool) pa_nil))) (isi .bool T.n_isinstance (pa_cons (pv 1) (pa_cons (gty .bool T.n_bool bb_bool) pa_nil))) (nomark _)) (pw_or1 (pt_cmpR op_neC (isi .int T.n_isinstance (pa_cons (pv 0) (pa_cons (gty .int T.n_int bb_int) pa_nil))) (isi .int T.n_isinstance (pa_cons (pv 1) (pa_cons (gty .int T.n_int bb_int) pa_nil))) (nomark _))))) (pss_one (ps_ret pe_bl)) pss_nil)
      (pss_one (ps_ret (pe_and (pe_cmpR op_eqC (isi .str T.n_isinstance (pa_cons (pv 0) (pa_cons (gty .str T.n_str bb_str) pa_nil))) (isi .str T.n_isinstance (pa_cons (pv 1) (pa_cons (gty .str T.n_str bb_str) pa_nil))) (nomark _)) (pe_one (pe_cmpR op_eqC (pv 0) (pv 1) (nomark _)))))))))), ?_⟩
    rcases h with ⟨rfl, at_⟩ | ⟨a, b, xs, ys, rfl, rfl, ha, hb, l, r⟩ | ⟨a, b, xs, ys, rfl, rfl, ha, hb, l, r⟩ | ⟨Mu, p, q', fs, rfl, rfl, ne, hp, hq, sm⟩
    · rcases at_ with _ | bb | i | x
      · refine ⟨_, rfl, rfl, .non, .base .non, _, rfl, iteF ?_⟩
        refine ⟨_, rfl, (by show 2 ≤ sizeLine; decide), fun p np => ⟨p, .non, rfl, upd_same, .base .non, _, rfl, iteF ?_⟩⟩
        have s1 := same_new (o := .tup [V.ty Kd.list.n, .ty Kd.tuple.n]) np
        refine ⟨_, rfl, rfl, _, rfl, ?_⟩
        rw [decide_eq_true rfl]
        refine iteT (iteT ⟨_, rfl, rfl, _, rfl, ?_⟩)
        rw [decide_eq_true rfl]
        refine iteT ⟨_, rfl, rfl, ?_⟩
        rw [decide_eq_true rfl]
        exact q _ s1
      · refine ⟨_, rfl, rfl, .bool, .base (.bl bb), _, rfl, iteF ?_⟩
        refine ⟨_, rfl, (by show 2 ≤ sizeLine; decide), fun p np => ⟨p, .bool, rfl, upd_same, .base (.bl bb), _, rfl, iteF ?_⟩⟩
        have s1 := same_new (o := .tup [V.ty Kd.list.n, .ty Kd.tuple.n]) np
        refine ⟨_, rfl, rfl, _, rfl, ?_⟩
        rw [decide_eq_false (by intro z; cases z)]
        refine iteF ⟨_, rfl, rfl, _, rfl, ?_⟩
        rw [decide_eq_false (by intro z; cases z)]
        refine iteF ?_
        refine ⟨_, rfl, rfl, .bool, .base (.bl bb), _, rfl, rfl, .bool, .base (.bl bb), rfl, fun _ => ⟨_, rfl, iteF ?_⟩, fun z => absurd rfl z⟩
        refine ⟨_, rfl, rfl, .bool, .base (.bl bb), _, rfl, rfl, .bool, .base (.bl bb), rfl, fun _ => ⟨_, rfl, iteF ?_⟩, fun z => absurd rfl z⟩
        exact ⟨_, rfl, rfl, .bool, .base (.bl bb), _, rfl, rfl, .bool, .base (.bl bb), rfl, fun _ => ⟨_, rfl, iteT ⟨_, rfl, _, rfl, rfl, fun _ => q _ s1, fun z => absurd rfl z⟩⟩, fun z => absurd rfl z⟩
      · refine ⟨_, rfl, rfl, .int, .base (.int i), _, rfl, iteF ?_⟩
        refine ⟨_, rfl, (by show 2 ≤ sizeLine; decide), fun p np => ⟨p, .int, rfl, upd_same, .base (.int i), _, rfl, iteF ?_⟩⟩
        have s1 := same_new (o := .tup [V.ty Kd.list.n, .ty Kd.tuple.n]) np
        refine ⟨_, rfl, rfl, _, rfl, ?_⟩
        rw [decide_eq_false (by intro z; cases z)]
        refine iteF ⟨_, rfl, rfl, _, rfl, ?_⟩
        rw [decide_eq_false (by intro z; cases z)]
        refine iteF ?_
        refine ⟨_, rfl, rfl, .int, .base (.int i), _, rfl, rfl, .int, .base (.int i), rfl, fun _ => ⟨_, rfl, iteF ?_⟩, fun z => absurd rfl z⟩
        refine ⟨_, rfl, rfl, .int, .base (.int i), _, rfl, rfl, .int, .base (.int i), rfl, fun _ => ⟨_, rfl, iteF ?_⟩, fun z => absurd rfl z⟩
        exact ⟨_, rfl, rfl, .int, .base (.int i), _, rfl, rfl, .int, .base (.int i), rfl, fun _ => ⟨_, rfl, iteT ⟨_, rfl, _, rfl, rfl, fun _ => q _ s1, fun z => absurd rfl z⟩⟩, fun z => absurd rfl z⟩
      · refine ⟨_, rfl, rfl, .str, .base (.str x), _, rfl, iteF ?_⟩
        refine ⟨_, rfl, (by show 2 ≤ sizeLine; decide), fun p np => ⟨p, .str, rfl, upd_same, .base (.str x), _, rfl, iteF ?_⟩⟩
        have s1 := same_new (o := .tup [V.ty Kd.list.n, .ty Kd.tuple.n]) np
        refine ⟨_, rfl, rfl, _, rfl, ?_⟩
        rw [decide_eq_false (by intro z; cases z)]
        refine iteF ⟨_, rfl, rfl, _, rfl, ?_⟩
        rw [decide_eq_false (by intro z; cases z)]
        refine iteF ?_
        refine ⟨_, rfl, rfl, .str, .base (.str x), _, rfl, rfl, .str, .base (.str x), rfl, fun _ => ⟨_, rfl, iteF ?_⟩, fun z => absurd rfl z⟩
        refine ⟨_, rfl, rfl, .str, .base (.str x), _, rfl, rfl, .str, .base (.str x), rfl, fun _ => ⟨_, rfl, iteF ?_⟩, fun z => absurd rfl z⟩
        exact ⟨_, rfl, rfl, .str, .base (.str x), _, rfl, rfl, .str, .base (.str x), rfl, fun _ => ⟨_, rfl, iteT ⟨_, rfl, _, rfl, rfl, fun _ => q _ s1, fun z => absurd rfl z⟩⟩, fun z => absurd rfl z⟩
    · refine ⟨_, rfl, rfl, .list, .base (.lst hb), _, rfl, iteF ?_⟩
      refine ⟨_, rfl, (by show 2 ≤ sizeLine; decide), fun p np => ?_⟩
      have s1 := same_new (o := .tup [V.ty Kd.list.n, .ty Kd.tuple.n]) np
      refine ⟨p, .list, rfl, upd_same, .base (.lst (s1 _ _ hb)), _, rfl, iteT ?_⟩
      generalize upd H p (.tup [V.ty Kd.list.n, .ty Kd.tuple.n]) = H1 at s1 ⊢
      have ha1 := s1 _ _ ha
      have hb1 := s1 _ _ hb
      have el : xs.length = ys.length := paired_len r
      refine ⟨_, rfl, rfl, .list, .base (.lst ha1), _, rfl, rfl, .list, .base (.lst hb1), rfl, fun _ => ⟨_, rfl, iteF ?_⟩, fun z => absurd rfl z⟩
      refine ⟨_, rfl, rfl, .list, .base (.lst ha1), _, rfl, rfl, .list, .base (.lst hb1), rfl, fun _ => ⟨_, rfl, iteF ?_⟩, fun z => absurd rfl z⟩
      refine ⟨_, rfl, xs.length, .inl ⟨_, SqL.of ha1, rfl⟩, _, rfl, ys.length, .inl ⟨_, SqL.of hb1, rfl⟩, rfl, fun _ => ⟨_, rfl, iteT ?_⟩, fun z => absurd (by rw [el]) z⟩
      refine ⟨_, rfl, _, rfl, a, b, xs, ys, rfl, .inl ⟨SqL.of ha1, SqL.of hb1, fun D hD => ?_⟩⟩
      have naD := ne_of_none ha1 hD
      have nbD := ne_of_none hb1 hD
      refine lc_dat (n := xs.length) (walk_zip (n := xs.length) (by rw [← el]; exact (Nat.min_self _).symm)) (Mc := fun _ => False) (Mu := fun _ => False) (fun _ z => z) (Wl.no _) hD (by omega) (fun i => List.replicate i (.bool true)) rfl (fun _ _ => True) trivial (fun _ _ _ _ => trivial) (fun i H k _ => ⟨SqL.of (same_but k hD _ _ ha1), SqL.of (same_but k hD _ _ hb1)⟩) ?_ ?_
      · rintro i x0 Hj Hj' add skip hi kj wlj hDj - ⟨T, x, y, rfl, nT, rfl, hx, hy⟩ hadd -
        have sj := same_but kj hD
        have sT := same_new (o := .tup [x, y]) nT
        have lk : Lk (upd Hj T (.tup [x, y])) n x y := ((paired_at r hx hy).same (s1.trans sj)).same sT
        refine ⟨T, [x, y], rfl, SqT.of upd_same, rfl, _, _, rfl, _, _, rfl, rfl, rfl, ?_⟩
        refine ⟨_, rfl, _, rfl, x, y, rfl, lk, fun H5 s5 => ?_⟩
        have st := sT.trans s5
        exact hadd (.bl true) H5 (.bool true) (.ofSame st) (same_at st hDj) (.bl true) (by rw [List.replicate_succ']) trivial
      · rintro H3 zs k3 hz r3 - mD
        have e3 := dats_trues r3
        subst e3
        refine ⟨D, _, rfl, SqL.of hz, ?_⟩
        rw [all_trues]
        exact q _ (s1.trans (k3.same fun _ z => z))
    · refine ⟨_, rfl, rfl, .tuple, .base (.tup hb), _, rfl, iteF ?_⟩
      refine ⟨_, rfl, (by show 2 ≤ sizeLine; decide), fun p np => ?_⟩
      have s1 := same_new (o := .tup [V.ty Kd.list.n, .ty Kd.tuple.n]) np
      refine ⟨p, .tuple, rfl, upd_same, .base (.tup (s1 _ _ hb)), _, rfl, iteT ?_⟩
      generalize upd H p (.tup [V.ty Kd.list.n, .ty Kd.tuple.n]) = H1 at s1 ⊢
      have ha1 := s1 _ _ ha
      have hb1 := s1 _ _ hb
      have el : xs.length = ys.length := paired_len r
      refine ⟨_, rfl, rfl, .tuple, .base (.tup ha1), _, rfl, rfl, .tuple, .base (.tup hb1), rfl, fun _ => ⟨_, rfl, iteF ?_⟩, fun z => absurd rfl z⟩
      refine ⟨_, rfl, rfl, .tuple, .base (.tup ha1), _, rfl, rfl, .tuple, .base (.tup hb1), rfl, fun _ => ⟨_, rfl, iteF ?_⟩, fun z => absurd rfl z⟩
      refine ⟨_, rfl, xs.length, .inr ⟨_, SqT.of ha1, rfl⟩, _, rfl, ys.length, .inr ⟨_, SqT.of hb1, rfl⟩, rfl, fun _ => ⟨_, rfl, iteT ?_⟩, fun z => absurd (by rw [el]) z⟩
      refine ⟨_, rfl, _, rfl, a, b, xs, ys, rfl, .inr ⟨SqT.of ha1, SqT.of hb1, fun D hD => ?_⟩⟩
      have naD := ne_of_none ha1 hD
      have nbD := ne_of_none hb1 hD
      refine lc_dat (n := xs.length) (walk_zipT (n := xs.length) (by rw [← el]; exact (Nat.min_self _).symm)) (Mc := fun _ => False) (Mu := fun _ => False) (fun _ z => z) (Wl.no _) hD (by omega) (fun i => List.replicate i (.bool true)) rfl (fun _ _ => True) trivial (fun _ _ _ _ => trivial) (fun i H k _ => ⟨SqT.of (same_but k hD _ _ ha1), SqT.of (same_but k hD _ _ hb1)⟩) ?_ ?_
      · rintro i x0 Hj Hj' add skip hi kj wlj hDj - ⟨T, x, y, rfl, nT, rfl, hx, hy⟩ hadd -
        have sj := same_but kj hD
        have sT := same_new (o := .tup [x, y]) nT
        have lk : Lk (upd Hj T (.tup [x, y])) n x y := ((paired_at r hx hy).same (s1.trans sj)).same sT
        refine ⟨T, [x, y], rfl, SqT.of upd_same, rfl, _, _, rfl, _, _, rfl, rfl, rfl, ?_⟩
        refine ⟨_, rfl, _, rfl, x, y, rfl, lk, fun H5 s5 => ?_⟩
        have st := sT.trans s5
        exact hadd (.bl true) H5 (.bool true) (.ofSame st) (same_at st hDj) (.bl true) (by rw [List.replicate_succ']) trivial
      · rintro H3 zs k3 hz r3 - mD
        have e3 := dats_trues r3
        subst e3
        refine ⟨D, _, rfl, SqL.of hz, ?_⟩
        rw [all_trues]
        exact q _ (s1.trans (k3.same fun _ z => z))
    · obtain ⟨mp, kp, hkp, rp⟩ := hp
      obtain ⟨mq, kq, hkq, rq⟩ := hq
      have ekp := rp.keys
      have ekq := rq.keys
      have keysV : ∀ {kvs : List (Key × V)}, kvs.map (·.1) = (fs.map Prod.fst).map Sum.inr → kvs.map (fun kv => kV kv.1) = (fs.map Prod.fst).map V.str := fun {kvs} e => by
        have := congrArg (List.map kV) e
        rw [List.map_map, List.map_map] at this
        exact this
      have lkf : (fs.map Prod.fst).length ≤ 50 := by
        rw [List.length_map]
        exact sm.le
      have nmk : ∀ x ∈ srt (fs.map Prod.fst), NameOk x := fun x hx => by
        obtain ⟨f, hf, rfl⟩ := List.mem_map.mp ((srt_perm _).mem_iff.mp hx)
        exact sm.nm f hf
      refine ⟨_, rfl, rfl, .dict, .base (.dK hkq), _, rfl, iteT ?_⟩
      refine ⟨_, rfl, rfl, .dict, .base (.dK hkp), _, rfl, iteT ?_⟩
      refine ⟨_, rfl, p, kp, rfl, .inl hkp, fun a1 na1 => ?_⟩
      rw [keysV ekp]
      refine ⟨a1, _, rfl, SqL.of upd_same, by omega, fun ys p5 ps ss n5 => ?_⟩
      have e5 := srt_eq ps ss
      subst e5
      have s1 := same_new (o := .lst ((fs.map Prod.fst).map V.str)) na1
      have s2 := same_new (o := .lst ((srt (fs.map Prod.fst)).map V.str)) n5
      have h5 : upd (upd H a1 (.lst ((fs.map Prod.fst).map V.str))) p5 (.lst ((srt (fs.map Prod.fst)).map V.str)) p5 = some (.lst ((srt (fs.map Prod.fst)).map V.str)) := upd_same
      have s12 := s1.trans s2
      generalize upd (upd H a1 (.lst ((fs.map Prod.fst).map V.str))) p5 (.lst ((srt (fs.map Prod.fst)).map V.str)) = H2 at s12 h5 ⊢
      refine ⟨_, rfl, q', kq, rfl, .inl (s12 _ _ hkq), fun a2 na2 => ?_⟩
      rw [keysV ekq]
      refine ⟨a2, _, rfl, SqL.of upd_same, by omega, fun ys p6 ps ss n6 => ?_⟩
      have e6 := srt_eq ps ss
      subst e6
      have s3 := same_new (o := .lst ((fs.map Prod.fst).map V.str)) na2
      have s4 := same_new (o := .lst ((srt (fs.map Prod.fst)).map V.str)) n6
      have h6 : upd (upd H2 a2 (.lst ((fs.map Prod.fst).map V.str))) p6 (.lst ((srt (fs.map Prod.fst)).map V.str)) p6 = some (.lst ((srt (fs.map Prod.fst)).map V.str)) := upd_same
      have s34 := s3.trans s4
      generalize upd (upd H2 a2 (.lst ((fs.map Prod.fst).map V.str))) p6 (.lst ((srt (fs.map Prod.fst)).map V.str)) = H3 at s34 h6 ⊢
      have sA := s12.trans s34
      have lay := strs_lay (n := 0) nmk
      refine ⟨.list ((srt (fs.map Prod.fst)).map PyData.str), .list ((srt (fs.map Prod.fst)).map PyData.str), .lst (SqL.of (s34 _ _ h5)) (Dats.dp (Mu := fun _ => False) (dats_strs _)), .lst (SqL.of h6) (Dats.dp (Mu := fun _ => False) (dats_strs _)), lay.shaped, lay.shaped, _, rfl, ?_⟩
      rw [lay.refl]
      refine iteT ?_
      have hp3 := sA _ _ hkp
      have hq3 := sA _ _ hkq
      have rp3 := rp.keep (.ofSame sA)
      have rq3 := rq.keep (.ofSame sA)
      refine ⟨q', _, hq3, trivial, fun od => ?_⟩
      have g2 : ∀ b, wi Mu q' b → Mu b ∨ Other (H3 b) := fun b m => m.imp id fun e => by rw [e, hq3]; exact other_dK
      have kL : Kp (fun b => b = q') H3 (upd H3 q' (.frz od (.dK kq))) := kp_at
      have rpL : KvF (wi Mu q') (upd H3 q' (.frz od (.dK kq))) kp fs := rp3.imp fun v d h => (h.grow2 g2).keep (kL.wide fun b m => .inr m)
      have rqL : KvF (wi Mu q') (upd H3 q' (.frz od (.dK kq))) kq fs := rq3.imp fun v d h => (h.grow2 g2).keep (kL.wide fun b m => .inr m)
      have hpL : upd H3 q' (.frz od (.dK kq)) p = some (.dK kp) := by
        rw [upd_ne ne]
        exact hp3
      have hqL : upd H3 q' (.frz od (.dK kq)) q' = some (.frz od (.dK kq)) := upd_same
      generalize upd H3 q' (.frz od (.dK kq)) = HL at kL rpL rqL hpL hqL ⊢
      refine ⟨_, rfl, q', od, rfl, .inl ⟨kq, hqL, fun D hD => ?_⟩⟩
      have nqD := ne_of_none hqL hD
      have npD := ne_of_none hpL hD
      have lq : kq.length = fs.length := by
        have := congrArg List.length ekq
        rw [List.length_map, List.length_map, List.length_map] at this
        exact this
      have gD : ∀ b, wi (wi Mu q') D b → wi Mu q' b ∨ HL b = none := fun b m => m.imp id fun e => by rw [show b = D from e]; exact hD
      refine lc_dat (n := kq.length) walk_keys (Mc := fun _ => False) (Mu := fun _ => False) (fun _ z => z) (Wl.no _) hD (by have := sm.le; omega) (fun i => List.replicate i (.bool true)) rfl (fun _ _ => True) trivial (fun _ _ _ _ => trivial) (fun i H k _ => same_but k hD _ _ hqL) ?_ ?_
      · rintro i x0 Hj' Hj add skip hi kj wlj hDj - ⟨rfl, k, v, hk, rfl⟩ hadd -
        have sj := same_but kj hD
        obtain ⟨f0, hf0⟩ : ∃ f0, fs[i]? = some f0 := ⟨_, List.getElem?_eq_getElem (by omega)⟩
        have ek : k = Sum.inr f0.1 := by
          have e1 : (kq.map (·.1))[i]? = some k := by rw [List.getElem?_map, hk]; rfl
          rw [ekq, List.getElem?_map, List.getElem?_map, hf0] at e1
          exact (Option.some.inj e1).symm
        subst ek
        obtain ⟨vp, hvp, dvp⟩ := rpL.find sm.nd hf0
        obtain ⟨vq, hvq, dvq⟩ := rqL.find sm.nd hf0
        have lk : Lk Hj n vp vq := lk_dat (sm.sm f0 (List.mem_of_getElem? hf0)) (dvp.same sj) (dvq.same sj)
        refine ⟨rfl, ?_⟩
        refine ⟨_, rfl, _, rfl, p, vp, rfl, dgetV (.inl (sj _ _ hpL)) hvp, _, rfl, _, rfl, q', vq, rfl, dgetV (.inr ⟨od, sj _ _ hqL⟩) hvq, vp, vq, rfl, lk, fun H5 s5 => ?_⟩
        exact hadd (.bl true) H5 (.bool true) (.ofSame s5) (same_at s5 hDj) (.bl true) (by rw [List.replicate_succ']) trivial
      · rintro H5 zs k5 hz r5 - mD
        have e5 := dats_trues r5
        subst e5
        have s5 : Same HL H5 := k5.same fun _ z => z
        refine ⟨s5 _ _ hqL, D, _, rfl, SqL.of (by rw [upd_ne (Ne.symm nqD)]; exact hz), ?_⟩
        rw [all_trues]
        refine q _ fun b o eb => ?_
        have e3 := sA b o eb
        by_cases z : b = q'
        · rw [z, upd_same, ← hq3, ← z]
          exact e3
        · rw [upd_ne z]
          exact s5 b o (kL.at_ b o z e3)
end
end AG
namespace AG
open PySem PySem.Spec PyProof.Rows L2
theorem bb_repr : bootBuiltins "repr" = some (.builtin "repr") := by decide +kernel
theorem Sm.mono : ∀ {n m : Nat} {d : PyData}, Sm n d → n ≤ m → Sm m d
  | 0, _, _, h, _ => h.elim
  | n + 1, 0, _, _, l => absurd l (by omega)
  | n + 1, m + 1, .list ds, h, l => ⟨h.1, fun d hd => (h.2 d hd).mono (by omega)⟩
  | n + 1, m + 1, .tuple ds, h, l => ⟨h.1, fun d hd => (h.2 d hd).mono (by omega)⟩
  | n + 1, m + 1, .dict _, h, _ => h.elim
  | n + 1, m + 1, .none, _, _ => trivial
  | n + 1, m + 1, .bool _, _, _ => trivial
  | n + 1, m + 1, .int _, _, _ => trivial
  | n + 1, m + 1, .str _, _, _ => trivial
theorem sm_fm : ∀ f : Fm, Sm (f.deep + 1) f.d
  | .at x => ⟨by show 2 ≤ 100; decide, fun d hd => by
      have : d = .str "atom" ∨ d = .str x := by simpa using hd
      rcases this with rfl | rfl <;> exact trivial⟩
  | .no => ⟨by show 1 ≤ 100; decide, fun d hd => by
      have : d = .str "false" := by simpa using hd
      rw [this]
      exact trivial⟩
  | .bi o a b => ⟨by show 3 ≤ 100; decide, fun d hd => by
      have : d = .str o.w ∨ d = a.d ∨ d = b.d := by simpa using hd
      rcases this with rfl | rfl | rfl
      · exact trivial
      · exact (sm_fm a).mono (Nat.succ_le_succ (Nat.le_max_left _ _))
      · exact (sm_fm b).mono (Nat.succ_le_succ (Nat.le_max_right _ _))⟩
theorem deep_chain : ∀ (fs : List Fm) (g : Fm), (∀ f ∈ fs, f.deep ≤ 3) → g.deep ≤ 3 → (chain fs g).deep ≤ fs.length + 3
  | [], g, _, h => by
    show g.deep ≤ 0 + 3
    omega
  | f :: r, g, hf, h => by
    have h1 := deep_chain r g (fun x hx => hf x (List.mem_cons_of_mem _ hx)) h
    have h2 := hf f (List.mem_cons_self ..)
    show max f.deep (chain r g).deep + 1 ≤ (r.length + 1) + 3
    omega
theorem deep_states {e : Ent} (h : EntOk e) : (states e.rows e.goal).deep ≤ 11 := by
  have := deep_chain (e.rows.map Prod.snd) e.goal (fun f hf => by
    obtain ⟨r, hr, rfl⟩ := List.mem_map.mp hf
    exact (h.ro r hr).dp) h.gd
  rw [List.length_map] at this
  have := h.rl
  unfold states
  omega
theorem sm_states {e : Ent} (h : EntOk e) : Sm 12 (states e.rows e.goal).d := (sm_fm _).mono (by have := deep_states h; omega)
theorem sm_strs {n : Nat} {xs : List Str} (h : xs.length ≤ 100) : Sm (n + 2) (.list (xs.map PyData.str)) := ⟨by rw [List.length_map]; exact h, fun d hd => by
  obtain ⟨x, _, rfl⟩ := List.mem_map.mp hd
  exact trivial⟩
theorem ShC.same {c : Cs} {Mu : Mut1} {H H' : Hp} {S d : Addr} {es : List Ent} (h : ShC c Mu H S d es) (s : Same H H') : ShC c Mu H' S d es := by
  obtain ⟨dx, p, f, hh, b, lim, hS, ct⟩ := h
  exact ⟨dx, p, f, hh, b, lim, s _ _ hS, ct.keep (.ofSame s)⟩
section
variable {P : Program} {w : World} {K : PySem.W.Frag} {mg : Str → Option Value} {base : Heap} {c : Cs}
/-! ### _law_shelf_is -/
def spShelfIs (c : Cs) : Sp := fun vs H Q _ => ∃ (Mu : Mut1) (S d : Addr) (es : List Ent) (v : V), vs = [.ref S, v] ∧ Wl Mu H ∧ ShC c Mu H S d es ∧ Dat Mu H v (lawC es) ∧ (∀ e ∈ es, EntOk e) ∧ (names es).Nodup ∧ Closed es ∧ es.length ≤ 7 ∧ ∀ H', Same H H' → Q (.bl true) H'
theorem sc__law_shelf_is : FnScope ["_law_shelf", "_law_content", "_law_row", "_law_names_here", "_law_name", "_law_rows_here", "_law_goal", "_law_commands", "_law_made", "_law_users", "_law_told"] ["_law_shelf", "_law_content"] (defScope s__law_shelf_is) := ⟨rfl, rfl, rfl, by decide +kernel, rfl, by decide +kernel, by decide +kernel⟩
theorem ok__law_shelf_is (T : Txt w K mg c) : Def P w K mg base CX0 "_law_shelf_is" ["_law_shelf", "_law_content"] 18 (spShelfIs c) := by
  refine T.d__law_shelf_is.def_ sc__law_shelf_is (fun vs H Q E ⟨_, _, _, _, _, e, _⟩ => by rw [e]; rfl) (fun _ _ _ _ _ _ us hl => match us, hl with | [_, _], _ => rfl) fun f cdv A outer s H vs Q E hr h => ?_
  obtain ⟨Mu, S, d, es, v, rfl, wl, sh, dv, ok, nd, cl, hl, q⟩ := h
  refine ⟨_, PSs.nox (pss_cons (ps_setLc (i := 3) (own := [("_law_row", 2)]) rfl sc__law_shelf_is.nd rfl rfl (sw_true rfl rfl rfl (by decide +kernel)) (pi_list (pv 1)) (blkOk_by (N := ["_law_shelf", "_law_content", "_law_row", "_law_names_here", "_law_name", "_law_rows_here", "_law_goal", "_law_commands", "_law_made", "_law_users", "_law_told"]) (sc := (defScope s__law_shelf_is)) (by decide +kernel)) (fun _ _ _ _ _ => (pg_name (i := 2) sc__law_shelf_is.nd rfl (Or.inl rfl))) (fun _ _ _ _ _ => pts_nil) (fun _ _ _ _ _ => (pe_ix ix_dat (pv 2) pe_int (fun _ _ => rfl))))
      (pss_cons (ps_if (pt_not (pt_val (dcall (ok__law_like T 16) hr (by decide) pass0 (pa_cons (pe_lst (pa_cons (mcall0 (ok_Shelf_names T) hr (by decide) pass0 (pv 0)) (pa_cons (pe_callB (own_len (ok_Shelf___len__ T) hr (by decide)) (by rfl) T.n_len PySem.boot_len (pa_cons (pv 0) pa_nil)) (pa_cons (pe_callB (own_repr (ok_Shelf___repr__ T) hr (by decide)) (by rfl) T.n_repr bb_repr (pa_cons (pv 0) pa_nil)) pa_nil)))) (pa_cons (pe_lst (pa_cons (pv 3) (pa_cons (len1 T.n_len (pa_cons (pv 3) pa_nil)) (pa_cons (pe_op op_add_str (pe_op op_add_str pe_str (pe_callTy call_str_int (by rfl) T.n_str bb_str (pa_cons (len1 T.n_len (pa_cons (pv 3) pa_nil)) pa_nil))) pe_str) pa_nil)))) pa_nil))))) (pss_one (ps_ret pe_bl)) pss_nil)
      (pss_cons (ps_for PassesOwn.never rfl (pi_list (pv 1)) (pg_tup rfl (pgs_cons (pg_name (i := 4) sc__law_shelf_is.nd rfl (Or.inr rfl)) (pgs_cons (pg_name (i := 5) sc__law_shelf_is.nd rfl (Or.inl rfl)) (pgs_cons (pg_name (i := 6) sc__law_shelf_is.nd rfl (Or.inl rfl)) (pgs_cons (pg_name (i := 7) sc__law_shelf_is.nd rfl (Or.inl rfl)) pgs_nil))))) (pss_cons (ps_set (i := 8) sc__law_shelf_is.nd rfl (Or.inl rfl) (mcall (ok_Shelf_claim_of T) hr (by decide) pass0 (pv 0) (pa_cons (pv 4) pa_nil)))
      (pss_cons (ps_set (i := 9) sc__law_shelf_is.nd rfl (Or.inl rfl) (pe_callB cr_sortedS (by rfl) T.n_sorted (by decide +kernel) (pa_cons (pe_lc (own := [("_law_row", 2)]) (tt := tTest (tOp (rInC K false) (tVar 4) (tCall spLRec [] E0 (tCons (tOp rIxD (tVar 2) (tC (.int 3))) tNil)))) rfl sc__law_shelf_is.nd (pi_list (pv 1)) (blkOk_by (N := ["_law_shelf", "_law_content", "_law_row", "_law_names_here", "_law_name", "_law_rows_here", "_law_goal", "_law_commands", "_law_made", "_law_users", "_law_told"]) (sc := (defScope s__law_shelf_is)) (by decide +kernel)) (fun _ _ _ _ _ => (pg_name (i := 2) sc__law_shelf_is.nd rfl (Or.inl rfl))) (fun _ _ _ _ _ => (pts_one (pt_cmpR op_inC (pv 4) (dcall (ok__law_recalled T) hr (by decide) pass0 (pa_cons (pe_ix ix_dat (pv 2) pe_int (fun _ _ => rfl)) pa_nil)) rfl))) (fun _ _ _ _ _ => (pe_ix ix_dat (pv 2) pe_int (fun _ _ => rfl)))) pa_nil)))
      (pss_cons (ps_set (i := 10) sc__law_shelf_is.nd rfl (Or.inl rfl) (pe_lst (pa_cons (pe_cmpR (own_eq (ok_Script___eq__ T) hr (by decide)) (pget (ok_Claim_script T) hr (by decide) (pv 8)) (kcall (ok_Script T) hr (by decide) pass0 (pa_cons (pv 7) pa_nil)) (nomark _)) (pa_cons (pe_cmpR (own_eq (ok_Context___eq__ T) hr (by decide)) (pget (ok_Claim_context T) hr (by decide) (pv 8)) (kcall (ok_Context T) hr (by decide) pass0 (pa_cons (pv 5) pa_nil)) (nomark _)) (pa_cons (pget (ok_Claim_goal T) hr (by decide) (pv 8)) (pa_cons (mcall0 (ok_Claim_facts T) hr (by decide) pass0 (pv 8)) (pa_cons (mcall (ok_Shelf_statement T) hr (by decide) pass0 (pv 0) (pa_cons (pv 4) pa_nil)) pa_nil)))))))
      (pss_cons (ps_if (pt_not (pt_val (dcall (ok__law_like T 16) hr (by decide) pass0 (pa_cons (pv 10) (pa_cons (pe_lst (pa_cons pe_bl (pa_cons pe_bl (pa_cons (pv 6) (pa_cons (dcall (ok__law_known T) hr (by decide) pass0 (pa_cons (pv 1) (pa_cons (pv 7) pa_nil))) (pa_cons (dcall (ok__law_states T) hr (by decide) pass0 (pa_cons (pv 5) (pa_cons (pv 6) pa_nil))) pa_nil)))))) pa_nil))))) (pss_one (ps_ret pe_bl)) pss_nil)
      (pss_one (ps_if (pt_not (pt_val (dcall (ok__law_like T 16) hr (by decide) pass0 (pa_cons (pe_lst (pa_cons (mcall (ok_Shelf_users T) hr (by decide) pass0 (pv 0) (pa_cons (pv 4) pa_nil)) (pa_cons (mcall (ok_Shelf_rests T) hr (by decide) pass0 (pv 0) (pa_cons (pv 4) pa_nil)) (pa_cons (pe_cmpR (own_in (ok_Shelf___contains__ T) hr (by decide)) (pv 4) (pv 0) rfl) pa_nil)))) (pa_cons (pe_lst (pa_cons (pv 9) (pa_cons (dcall (ok__law_rests T) hr (by decide) pass0 (pa_cons (pv 1) (pa_cons (pv 4) pa_nil))) (pa_cons pe_bl pa_nil)))) pa_nil))))) (pss_one (ps_ret pe_bl)) pss_nil)))))))
      (pss_one (ps_ret pe_bl))))), ?_⟩
  have dv0 := dv
  obtain ⟨av, xs, rfl, mav, hav, rv⟩ := dv.asLst
  have lx : xs.length = es.length := rv.length.trans (List.length_map ..)
  refine ⟨_, rfl, av, rfl, ⟨_, SqL.of hav⟩, fun D hD => ?_⟩
  have nD : av ≠ D := ne_of_none hav hD
  refine lc_dat (n := xs.length) walk_list (Mc := fun _ => False) (Mu := Mu) (fun _ z => z.elim) wl hD (by omega) (fun i => ((es.take i).map Ent.name).map PyData.str) rfl (fun _ _ => True) trivial (fun _ _ _ _ => trivial) (fun i H k _ => SqL.of (k.at_ _ _ (fun z => z.elim (fun z => z) nD) hav)) ?_ ?_
  · rintro i x0 Hj' Hj add skip hi kj wlj hDj - ⟨rfl, hx0⟩ ha -
    obtain ⟨d0, hd0, de⟩ := rv.get hx0
    obtain ⟨e1, he1, rfl⟩ := map_at hd0
    have g : ∀ b, wi Mu D b → Mu b ∨ H b = none := fun b m => m.imp id fun e => by rw [show b = D from e]; exact hD
    have dj : Dat (wi Mu D) Hj x0 e1.lawD := (de.grow g).keep (kj.wide fun b m => m.elim (fun z => z.elim) .inr)
    refine ⟨rfl, ?_⟩
    refine ⟨_, rfl, wi Mu D, _, .str e1.name, 0, dj, rfl, rfl, fun z4 d4 => ha z4 Hj (.str e1.name) (.refl _) rfl d4 ?_ trivial⟩
    show ((es.take (i + 1)).map Ent.name).map PyData.str = _
    rw [take_succ he1, List.map_append, List.map_append]
    rfl
  rintro H1 ys k1 hy r1 - mD
  have s1 : Same H H1 := k1.same fun _ z => z
  have ef : es.take xs.length = es := by rw [lx, List.take_length]
  rw [ef] at r1
  have dn1 : Dat Mu H1 (.ref D) (.list ((names es).map PyData.str)) := .lst mD hy r1
  have ln : (names es).length = es.length := List.length_map ..
  have sh1 := sh.same s1
  obtain ⟨dx, p0, f0, h0, b0, l0, hS, ct⟩ := id sh1
  have wl1 := wl.same s1
  have lk7 : ((es.length : Nat) : Int).natAbs.log2 < 1920 ∧ (("Shelf(" : Str) ++ (toString ((es.length : Nat) : Int) : Str)).length ≤ sizeLine ∧ ("Shelf(" : Str).length + ((toString ((es.length : Nat) : Int) : Str)).length ≤ sizeLine ∧ (("Shelf(" : Str) ++ (toString ((es.length : Nat) : Int) : Str)).length + (" entries)" : Str).length ≤ sizeLine := by
    generalize es.length = n at hl
    have cases8 : n = 0 ∨ n = 1 ∨ n = 2 ∨ n = 3 ∨ n = 4 ∨ n = 5 ∨ n = 6 ∨ n = 7 := by omega
    rcases cases8 with e | e | e | e | e | e | e | e <;> (rw [e]; decide +kernel)
  refine ⟨_, rfl, S, dx, _, rfl, hS, rfl, Mu, S, d, es, rfl, wl1, sh1, fun p H2 s2 d2 n2 => ?_⟩
  have hS2 := s2 _ _ hS
  have sh2 := sh1.same s2
  refine ⟨_, rfl, S, dx, _, rfl, hS2, Mu, S, d, es, rfl, sh2, ⟨es.length, Nat.lt_of_le_of_lt hl (by decide), rfl⟩, ?_⟩
  refine ⟨_, rfl, S, dx, _, rfl, hS2, Mu, S, d, es, rfl, sh2, by omega, ⟨_, rfl⟩, ?_⟩
  refine ⟨(by show 3 ≤ sizeLine; decide), fun p3 n3 => ?_⟩
  have s3 := same_new (o := .lst [V.ref p, .int (es.length : Nat), .str (reprS es.length)]) n3
  have h3 : upd H2 p3 (.lst [V.ref p, .int (es.length : Nat), .str (reprS es.length)]) p3 = some (.lst [V.ref p, .int (es.length : Nat), .str (reprS es.length)]) := upd_same
  generalize upd H2 p3 (.lst [V.ref p, .int (es.length : Nat), .str (reprS es.length)]) = H3 at s3 h3 ⊢
  have hy3 := s3 _ _ (s2 _ _ hy)
  have len3 : LenV K (.ref D) H3 ((((es.map Ent.name).map PyData.str).length)) := (dn1.same (s2.trans s3)).lenL
  have elen : ((es.map Ent.name).map PyData.str).length = es.length := by rw [List.length_map, List.length_map]
  rw [elen] at len3
  refine ⟨_, rfl, _, rfl, es.length, len3, _, rfl, es.length, len3, _, rfl, lk7.1, _, _, rfl, rfl, lk7.2.2.1, _, _, rfl, rfl, lk7.2.2.2, ?_⟩
  refine ⟨(by show 3 ≤ sizeLine; decide), fun p4 n4 => ?_⟩
  have er : ("Shelf(" : Str) ++ (toString ((es.length : Nat) : Int) : Str) ++ (" entries)" : Str) = reprS es.length := by
    unfold reprS
    rw [Str.empty_append]
  rw [er]
  have s4 := same_new (o := .lst [V.ref D, .int (es.length : Nat), .str (reprS es.length)]) n4
  have h4 : upd H3 p4 (.lst [V.ref D, .int (es.length : Nat), .str (reprS es.length)]) p4 = some (.lst [V.ref D, .int (es.length : Nat), .str (reprS es.length)]) := upd_same
  generalize upd H3 p4 (.lst [V.ref D, .int (es.length : Nat), .str (reprS es.length)]) = H4 at s4 h4 ⊢
  have s34 := s3.trans s4
  refine ⟨_, _, rfl, .inr (.inl ⟨p3, p4, _, _, rfl, rfl, s4 _ _ h3, h4, by simp, .cons (lk_dat (n := 15) (sm_strs (n := 13) (by rw [ln]; omega)) (d2.same s34) (dn1.same (s2.trans s34))) (.cons (.inl ⟨rfl, .int _⟩) (.cons (.inl ⟨rfl, .str _⟩) .nil))⟩), fun H5 s5 => ⟨_, rfl, iteF ?_⟩⟩
  have s15 := (s2.trans s34).trans s5
  refine ⟨_, rfl, av, rfl, ⟨_, SqL.of (s15 _ _ (s1 _ _ hav))⟩, ?_⟩
  refine for_it walk_list (fun i σ Hj => ∃ x2 x4 x5 x6 x7 x8 x9 x10, σ = [some (.ref S), some (.ref av), x2, some (.ref D), x4, x5, x6, x7, x8, x9, x10] ∧ Same H1 Hj) ⟨_, _, _, _, _, _, _, _, rfl, s15⟩ (fun i σ Hj _ ⟨_, _, _, _, _, _, _, _, _, sj⟩ => SqL.of (sj _ _ (s1 _ _ hav))) ?_ ?_
  · rintro i x0 σ Hj Hj' hi ⟨x2, x4, x5, x6, x7, x8, x9, x10, rfl, sj⟩ ⟨rfl, hx0⟩
    obtain ⟨d0, hd0, de⟩ := rv.get hx0
    obtain ⟨e, he, rfl⟩ := map_at hd0
    have okE := ok e (List.mem_of_getElem? he)
    have hent : ent? es e.name = some e := ent_at nd he
    have hhas : has es e.name := (ent_has hent).1
    have sHj := s1.trans sj
    obtain ⟨ae, v1, v2, v3, rfl, me, hae, r1, r2, r3⟩ := (de.same sHj).ent
    refine ⟨ae, _, rfl, SqT.of hae, rfl, _, _, rfl, _, _, rfl, _, _, rfl, _, _, rfl, rfl, ?_⟩
    have hSj := sj _ _ hS
    have shj := sh1.same sj
    have ctj : Cont c Mu Hj' d es := ct.keep (.ofSame sj)
    have wlj := wl1.same sj
    -- the claim
    refine ⟨_, rfl, S, dx, _, rfl, hSj, rfl, _, rfl, Mu, S, d, es, e.name, rfl, shj, hhas, Mu, d, es, e.name, e, rfl, wlj, ctj, ok, cl, hent, fun vm Ha sa clm => ?_⟩
    have hava := sa _ _ (sHj _ _ hav)
    have wla := wlj.same sa
    -- its users
    refine ⟨_, rfl, av, rfl, ⟨_, SqL.of hava⟩, fun F hF => ?_⟩
    have nF : av ≠ F := ne_of_none hava hF
    refine lc_dat (n := xs.length) walk_list (Mc := fun _ => False) (Mu := Mu) (fun _ z => z.elim) wla hF (by omega) (fun i => (((es.take i).filter (usesB e.name)).map Ent.name).map PyData.str) rfl (fun _ _ => True) trivial (fun _ _ _ _ => trivial) (fun i H k _ => SqL.of (k.at_ _ _ (fun z => z.elim (fun z => z) nF) hava)) ?_ ?_
    · rintro i x0 Hk' Hk add skip hi kj wlk hDk - ⟨rfl, hx0⟩ ha hs
      obtain ⟨d0, hd0, de⟩ := rv.get hx0
      obtain ⟨e1, he1, rfl⟩ := map_at hd0
      have ok1 := ok e1 (List.mem_of_getElem? he1)
      have g : ∀ b, wi Mu F b → Mu b ∨ Ha b = none := fun b m => m.imp id fun e => by rw [show b = F from e]; exact hF
      have dj : Dat (wi Mu F) Hk x0 e1.lawD := ((de.same (sHj.trans sa)).grow g).keep (kj.wide fun b m => m.elim (fun z => z.elim) .inr)
      have et : es.take (i + 1) = es.take i ++ [e1] := take_succ he1
      refine ⟨rfl, _, rfl, _, rfl, wi Mu F, _, _, 3, dj, rfl, rfl, fun z3 dz3 => ⟨wi Mu F, z3, e1.cmds, rfl, wlk, dz3, ok1.co, ok1.cl, fun p7 H7 s7 d7 n7 => ?_⟩⟩
      obtain ⟨_, ys7, e7, m7, h7, r7⟩ := d7.asLst
      cases e7
      have e8 : ys7 = e1.rcl.map V.str := dats_strs_eq r7
      subst e8
      have ue : usesB e.name e1 = decide (e.name ∈ e1.rcl) := rfl
      refine ⟨_, _, rfl, .inl (SqL.of h7), rfl, flat_strs _, fun z => ?_, fun z => ?_⟩
      · rw [inV_strs, ← ue] at z
        refine ⟨_, rfl, iteT ⟨_, rfl, wi Mu F, _, .str e1.name, 0, dj.same s7, rfl, rfl, fun z4 d4 => ha z4 H7 (.str e1.name) (.of s7) (same_at s7 hDk) d4 ?_ trivial⟩⟩
        show (((es.take (i + 1)).filter (usesB e.name)).map Ent.name).map PyData.str = _
        rw [et, List.filter_append, List.filter_cons_of_pos z, List.map_append, List.map_append]
        rfl
      · rw [inV_strs, ← ue] at z
        refine ⟨_, rfl, iteF (hs H7 (.of s7) (same_at s7 hDk) ?_ trivial)⟩
        show (((es.take (i + 1)).filter (usesB e.name)).map Ent.name).map PyData.str = _
        rw [et, List.filter_append, List.filter_cons_of_neg (by rw [z]; exact Bool.false_ne_true)]
        simp
    rintro Hb yb kb hyb rb - mF
    have sb : Same Ha Hb := kb.same fun _ z => z
    rw [ef] at rb
    have eyb := dats_strs_eq rb
    subst eyb
    have lu : ((es.filter (usesB e.name)).map Ent.name).length ≤ 7 := by
      rw [List.length_map]
      exact Nat.le_trans (List.length_filter_le _ _) hl
    refine ⟨F, _, rfl, SqL.of hyb, by omega, fun us p5 ps ss n5 => ?_⟩
    have eu : us = users es e.name := srt_eq ps ss
    subst eu
    have sc := same_new (o := .lst ((users es e.name).map V.str)) n5
    have hc : upd Hb p5 (.lst ((users es e.name).map V.str)) p5 = some (.lst ((users es e.name).map V.str)) := upd_same
    have mc : ¬ Mu p5 := (wla.same sb).new n5
    generalize upd Hb p5 (.lst ((users es e.name).map V.str)) = Hc at sc hc ⊢
    have sac := sb.trans sc
    have sjc := sa.trans sac
    have duc : Dat Mu Hc (.ref p5) (.list ((users es e.name).map PyData.str)) := .lst mc hc (dats_strs _)
    have wlc := wlj.same sjc
    have clm2 := clm.keep (Kp.ofSame (Mc := Mu) sac)
    have hSc := sjc _ _ hSj
    have shc := shj.same sjc
    -- what is told of it
    obtain ⟨s8, k8, g8, d8, ⟨a8, dx8, rfl, m8, h8⟩, hs8, hk8, hg8, hf8⟩ := id clm2
    have r1c := r1.same sjc
    have r2c := r2.same sjc
    have r3c := r3.same sjc
    obtain ⟨ts, us', ⟨as, dxs, rfl, mss, hss⟩, dts, dus⟩ := id hs8
    obtain ⟨tk, ⟨ak, dxk, rfl, mkk, hkk⟩, dtk⟩ := id hk8
    refine ⟨_, rfl, a8, dx8, _, rfl, h8, a8, dx8, _, _, rfl, h8, rfl, _, rfl, make_scr wlc r3c okE.co okE.cl fun b Hd sd nb scr => ⟨rfl, ?_⟩⟩
    obtain ⟨tb, ub, ⟨_, dxb, eb, mb, hb⟩, dtb, dub⟩ := id scr
    cases eb
    have h8d := sd _ _ h8
    refine ⟨as, b, dxs, dxb, _, _, rfl, rfl, sd _ _ hss, hb, Mu, Mu, _, _, e.cmds, rfl, hs8.keep (.ofSame sd), scr, okE.co, ⟨_, rfl⟩, ?_⟩
    refine ⟨_, rfl, a8, dx8, _, rfl, h8d, a8, dx8, _, _, rfl, h8d, rfl, _, rfl, make_ctx (wlc.same sd) (r1c.same sd) okE.ro okE.rl fun b2 He se nb2 ctx => ⟨rfl, ?_⟩⟩
    obtain ⟨tb2, ⟨_, dxb2, eb2, mb2, hb2⟩, dtb2⟩ := id ctx
    cases eb2
    have sde := sd.trans se
    have h8e := se _ _ h8d
    refine ⟨ak, b2, dxk, dxb2, _, _, rfl, rfl, sde _ _ hkk, hb2, Mu, Mu, _, _, e.rows, rfl, hk8.keep (.ofSame sde), ctx, okE.ro, ⟨_, rfl⟩, ?_⟩
    refine ⟨_, rfl, a8, dx8, _, rfl, h8e, a8, dx8, _, _, rfl, h8e, rfl, ?_⟩
    have wle := wlc.same sde
    refine ⟨_, rfl, a8, dx8, _, rfl, h8e, rfl, Mu, .ref a8, e, known es e.cmds, rfl, wle, clm2.keep (.ofSame sde), fun pf Hf sf ff nf => ?_⟩
    have sdf := sde.trans sf
    have shf := shc.same sdf
    refine ⟨_, rfl, S, dx, _, rfl, sdf _ _ hSc, rfl, _, rfl, Mu, S, d, es, e.name, rfl, wlc.same sdf, shf, ok, hhas, fun qs Hg sg dsg => ⟨(by show 5 ≤ sizeLine; decide), fun pt nt => ?_⟩⟩
    have st := same_new (o := .lst [V.bl true, .bl true, g8, .ref pf, qs]) nt
    have ht : upd Hg pt (.lst [V.bl true, .bl true, g8, .ref pf, qs]) pt = some (.lst [V.bl true, .bl true, g8, .ref pf, qs]) := upd_same
    generalize upd Hg pt (.lst [V.bl true, .bl true, g8, .ref pf, qs]) = Ht at st ht ⊢
    have sgt := sg.trans st
    have sct := (sdf.trans sgt)
    have wlt := wlc.same sct
    have sT := (sHj.trans sjc).trans sct
    have ffT : Fcts Mu Ht pf (known es e.cmds) := ff.keep (.ofSame sgt)
    have dgT := hg8.same sct
    have dsT := dsg.same st
    have est : statesOf es e.name = states e.rows e.goal := by
      unfold statesOf
      rw [hent]
    rw [est] at dsT
    have hasR : ∀ y ∈ recs e.cmds, has es y := fun y hy => cl e (List.mem_of_getElem? he) y hy
    refine ⟨_, rfl, _, rfl, _, rfl, _, rfl, Mu, _, _, es, e.cmds, rfl, wlt, dv0.same sT, r3c.same sct, ok, nd, by omega, okE.co, okE.cl, hasR, fun pk Hk sk fk nk => ?_⟩
    refine ⟨_, rfl, _, rfl, Mu, _, _, e.rows, e.goal, rfl, wlt.same sk, (r1c.same sct).same sk, (r2c.same sct).same sk, by have := okE.rl; omega, fun qst Hl sl dl => ⟨(by show 5 ≤ sizeLine; decide), fun pm nm => ?_⟩⟩
    have sm_ := same_new (o := .lst [V.bl true, .bl true, v2, .ref pk, qst]) nm
    have hm : upd Hl pm (.lst [V.bl true, .bl true, v2, .ref pk, qst]) pm = some (.lst [V.bl true, .bl true, v2, .ref pk, qst]) := upd_same
    generalize upd Hl pm (.lst [V.bl true, .bl true, v2, .ref pk, qst]) = Hm at sm_ hm ⊢
    have slm := sl.trans sm_
    have skm := sk.trans slm
    have nfk : pf ≠ pk := fun z => by
      obtain ⟨_, kv, hkv, _⟩ := ffT
      rw [← z, hkv] at nk
      cases nk
    have fsm : Fsm 14 (known es e.cmds) := by
      refine ⟨?_, fun f hf => ?_, ?_, fun f hf => ?_⟩
      · unfold known
        rw [List.map_map, show (Prod.fst ∘ fun y => (y, statesOf es y)) = id from rfl, List.map_id]
        exact uniq_nodup _
      · obtain ⟨y, hy, rfl⟩ := List.mem_map.mp hf
        obtain ⟨ey, hey, hm', hn'⟩ := ent_some (hasR y (mem_uniq.mp hy))
        rw [← hn']
        exact (ok ey hm').nm
      · have h1 := known_len es e.cmds
        have h2 := okE.cl
        omega
      · obtain ⟨y, hy, rfl⟩ := List.mem_map.mp hf
        obtain ⟨ey, hey, hm', hn'⟩ := ent_some (hasR y (mem_uniq.mp hy))
        have : statesOf es y = states ey.rows ey.goal := by
          unfold statesOf
          rw [hey]
        show Sm 14 (statesOf es y).d
        rw [this]
        exact (sm_states (ok ey hm')).mono (by decide)
    have lk1 : Lk Hm 16 (.ref pt) (.ref pm) := .inr (.inl ⟨pt, pm, _, _, rfl, rfl, skm _ _ ht, hm, by simp, .cons (.inl ⟨rfl, .bl _⟩) (.cons (.inl ⟨rfl, .bl _⟩) (.cons (lk_dat (n := 15) ((sm_fm e.goal).mono (by have := okE.gd; omega)) (dgT.same skm) ((r2c.same sct).same skm)) (.cons (.inr (.inr (.inr ⟨Mu, pf, pk, _, rfl, rfl, nfk, ffT.keep (.ofSame skm), fk.keep (.ofSame slm), fsm⟩))) (.cons (lk_dat (n := 15) ((sm_states okE).mono (by decide)) (dsT.same skm) (dl.same sm_)) .nil))))⟩)
    refine ⟨_, _, rfl, lk1, fun Hn sn => ⟨_, rfl, iteF ?_⟩⟩
    -- users, rests, in
    have scn := sct.trans (skm.trans sn)
    have shn := shc.same scn
    have wln := wlc.same scn
    obtain ⟨dxn, pn, fn, hn, bn, ln', hSn, ctn⟩ := id shn
    refine ⟨_, rfl, S, dxn, _, rfl, hSn, rfl, _, rfl, Mu, S, d, es, e.name, rfl, shn, hhas, Mu, d, es, e.name, rfl, wln, ctn, ok, nd, by omega, fun pu Ho so du no => ?_⟩
    have sho := shn.same so
    refine ⟨_, rfl, S, dxn, _, rfl, so _ _ hSn, rfl, _, rfl, Mu, S, d, es, e.name, rfl, sho, hhas, Mu, d, es, e.name, rfl, wln.same so, ctn.keep (.ofSame so), ok, by omega, hhas, fun pr Hp sp dr np => ?_⟩
    have sop := so.trans sp
    refine ⟨_, rfl, _, rfl, S, dxn, _, rfl, sop _ _ hSn, Mu, S, d, es, e.name, rfl, shn.same sop, ⟨_, rfl⟩, ?_⟩
    rw [decide_eq_true hhas]
    refine ⟨(by show 3 ≤ sizeLine; decide), fun pq nq => ?_⟩
    have sq := same_new (o := .lst [V.ref pu, .ref pr, .bl true]) nq
    have hq : upd Hp pq (.lst [V.ref pu, .ref pr, .bl true]) pq = some (.lst [V.ref pu, .ref pr, .bl true]) := upd_same
    generalize upd Hp pq (.lst [V.ref pu, .ref pr, .bl true]) = Hq at sq hq ⊢
    have scq := scn.trans (sop.trans sq)
    refine ⟨_, rfl, _, rfl, _, rfl, Mu, _, es, e.name, rfl, wlc.same scq, dv0.same ((sHj.trans sjc).trans scq), ok, nd, cl, by omega, hhas, fun pz Hz sz dz nz => ⟨(by show 3 ≤ sizeLine; decide), fun pw nw => ?_⟩⟩
    have sw := same_new (o := .lst [V.ref p5, .ref pz, .bl true]) nw
    have hw : upd Hz pw (.lst [V.ref p5, .ref pz, .bl true]) pw = some (.lst [V.ref p5, .ref pz, .bl true]) := upd_same
    generalize upd Hz pw (.lst [V.ref p5, .ref pz, .bl true]) = Hw at sw hw ⊢
    have szw := sz.trans sw
    have lr : (rests es e.name).length ≤ 100 := by
      unfold rests
      rw [srt_len]
      have fnd0 : Fnd es ([] : List Str) [e.name] := ⟨.nil, fun y hy => (List.not_mem_nil hy).elim, fun y hy => by rw [List.mem_singleton.mp hy]; exact hhas⟩
      have key : ∀ (n : Nat) (a : List Str × List Str), Fnd es a.1 a.2 → (go es n a).length ≤ es.length := fun n => by
        induction n with
        | zero => exact fun a h => h.len
        | succ n ih =>
          intro a h
          rw [show go es (n + 1) a = (match a.2.getLast? with
            | none => a.1
            | some x => go es n ((rclOf es x).foldl (step es) (a.1, a.2.dropLast))) from rfl]
          cases hz : a.2.getLast? with
          | none => exact h.len
          | some y => exact ih _ (fold_fnd (a := (a.1, a.2.dropLast)) ⟨h.nd, h.sub, fun z hz => h.wai z (List.dropLast_subset _ hz)⟩)
      have := key (es.length + 1) ([], [e.name]) fnd0
      omega
    have lus : (users es e.name).length ≤ 100 := by
      unfold users
      rw [srt_len]
      omega
    have lk2 : Lk Hw 16 (.ref pq) (.ref pw) := .inr (.inl ⟨pq, pw, _, _, rfl, rfl, szw _ _ hq, hw, by simp, .cons (lk_dat (n := 15) (sm_strs (n := 13) lus) (du.same (sp.trans (sq.trans szw))) (duc.same (scq.trans szw))) (.cons (lk_dat (n := 15) (sm_strs (n := 13) lr) (dr.same (sq.trans szw)) (dz.same sw)) (.cons (.inl ⟨rfl, .bl _⟩) .nil))⟩)
    refine ⟨_, _, rfl, lk2, fun Hv sv => ⟨_, rfl, iteF ⟨_, _, _, _, _, _, _, _, rfl, ?_⟩⟩⟩
    exact (sj.trans sjc).trans (scq.trans (szw.trans sv))
  · rintro σ Hj ⟨x2, x4, x5, x6, x7, x8, x9, x10, rfl, sj⟩
    exact q _ (s1.trans sj)
end
end AG
namespace AG
open PySem PySem.Spec PyProof.Rows L2
/-! ### try: .. except (A, B, C) as n: .., where each error of the body is one of the three -/
section
variable {X : Cx} {Wout : WX}
/-- the caught exception is in flight again, with what was made meanwhile -/
theorem afresh {pins : List (Addr × Obj)} {W : WX} {a T : Addr} {oe oT : Obj} {cls : Value} {d : Option Addr} {σ σ6 : L2.St} {H H6 : Hp} {B : Heap} {sI s3 s6 : Shared} (hs : X.stack = X.env :: X.outer) (hf : X.env.frame = some X.env.locals) (hex : X.ex = []) (ok : X.Ok)
    (R : Rest X pins W a T oe oT cls d σ H B sI s3) (S6 : Inv (X.suite a ((a, oe) :: (T, oT) :: (X.pn ++ pins))) [] σ6 H6 s6) :
    ∃ G : Heap, Inv X pins σ6 H6 { s6 with heap := G } ∧ (∀ b o, G.get? b = some o → s6.heap.get? b = some o) ∧ HandSPX.FlyingZ (PySem.W.hideAll G (frs X.stack)) (X.env :: X.outer) a (Zc cls d) s6.heap := by
  obtain ⟨vs, hd, h1⟩ := R.ed
  obtain ⟨ts, dT, t3⟩ := R.td
  have J6 : Inv X pins σ6 H6 s6 := ⟨ok, S6.os, S6.bare, S6.base, S6.loc, S6.cell, S6.free, S6.freeC, fun p hp => S6.pin p (List.mem_append_left _ (List.mem_cons_of_mem _ (List.mem_cons_of_mem _ hp))), S6.hok, S6.len⟩
  obtain ⟨ga, na6, la, fa, _⟩ := S6.pin (a, oe) (List.mem_append_left _ List.mem_cons_self)
  obtain ⟨gT, nT6, lT, fT, _⟩ := S6.pin (T, oT) (List.mem_append_left _ (List.mem_cons_of_mem _ List.mem_cons_self))
  have far : ∀ b o, sI.heap.get? b = some o → b ≠ a ∧ b ≠ T := fun b o e => by
    by_cases hb : b ∈ frs X.stack
    · rcases List.mem_cons.mp (R.first.stkSub b hb) with z | z
      · exact ⟨fun y => la (y ▸ z), fun y => lT (y ▸ z)⟩
      · exact ⟨fun y => fa (y ▸ z), fun y => fT (y ▸ z)⟩
    · have q := R.nb b o e hb
      refine ⟨fun z => ?_, fun z => ?_⟩
      · rw [z, R.hB] at q
        cases q
      · rw [z, R.hT] at q
        cases q
  have far0 : ∀ b o, X.s_0.heap.get? b = some o → b ≠ a ∧ b ≠ T := fun b o e => by
    obtain ⟨o2, q⟩ := R.first.base.there b o e (by rw [hex]; simp)
    exact far b o2 q
  obtain ⟨G, g1, g2⟩ := restrict s6.heap fun b => !(decide (b = a) || decide (b = T))
  have gIn : ∀ b o, G.get? b = some o → s6.heap.get? b = some o ∧ b ≠ a ∧ b ≠ T := fun b o e => by
    by_cases z : b = a ∨ b = T
    · rw [g2 b (by rcases z with z | z <;> simp [z])] at e
      cases e
    · have z2 := not_or.mp z
      rw [g1 b (by simp [z2.1, z2.2])] at e
      exact ⟨e, z2⟩
  have I6 : Inv X pins σ6 H6 { s6 with heap := G } := J6.less (fun b o e => (gIn b o e).1) (fun b o h1 h2 e => (g1 b (by simp [h1, h2])).trans e) ⟨oe, vs, ga, hd⟩ ⟨oT, ts, gT, dT⟩ na6 nT6 far0 fun p hp => far p.1 p.2 (R.first.pin p hp).1
  have low : ∀ b o, (PySem.W.hideAll G (frs X.stack)).get? b = some o → s6.heap.get? b = some o ∧ b ≠ a ∧ b ≠ T := fun b o e => gIn b o (PySem.W.of_hideAll _ e)
  have none_ : ∀ b, (b = a ∨ b = T) → (PySem.W.hideAll G (frs X.stack)).get? b = none := fun b hb => by
    cases q : (PySem.W.hideAll G (frs X.stack)).get? b with
    | none => rfl
    | some o => exact absurd hb (not_or.mpr (low b o q).2)
  refine ⟨G, I6, fun b o e => (gIn b o e).1, fun b o e => (low b o e).1, none_ a (.inl rfl), ?_, oe, vs, T, oT, ts, ga, R.z, hd, h1, none_ T (.inr rfl), R.ne, gT, dT, t3⟩
  have ff := funFrames_none (B := PySem.W.hideAll G (frs X.stack)) J6.stack fun b hb => PySem.W.hideAll_none _ hb
  rw [← hs]
  exact ff
/-- what is wished of the body's error -/
def wTup3 (K : PySem.W.Frag) (cs : List Value) (i m : Nat) (ts : Addr → Value → Option Addr → TS) (D : L2.Ends) : WX := fun cls d σ H =>
  PySem.W.exmAny K cls cs = some true ∧ (σ.length = m → ∀ a H1, Same H H1 → H a = none → H1 a = none → ts a cls d { nx := fun σ' H' => D.nx (σ'.set i none) H', rt := D.rt, bk := fun σ' H' => D.bk (σ'.set i none) H', ct := fun σ' H' => D.ct (σ'.set i none) H' } (σ.set i (some (.ref a))) H1)
theorem ps_try_tup3 {n : Str} {i : Nat} {c1 c2 c3 : Value} {v1 v2 v3 : V} {es : List Expr} {ta : TA} {x1} {body suite : List Stmt} {b₀ : Stmt} {pos pos' np : Pos} {tb : WX → TS} {ts : Addr → Value → Option Addr → TS} (hs : X.stack = X.env :: X.outer) (hf : X.env.frame = some X.env.locals) (hex : X.ex = []) (hN : X.N.Nodup) (hi : X.N[i]? = some n) (hln : X.env.kindOf n = some .local)
    (hes : ∀ (a : Addr) (pn : List (Addr × Obj)), PA (X.suite a pn) es ta) (hta : ∀ (σ : L2.St) (H : Hp) (Q : List V → Hp → Prop), Q [v1, v2, v3] H → ta σ H Q) (r1 : ∀ u, L2.RelV v1 u → u = c1) (r2 : ∀ u, L2.RelV v2 u → u = c2) (r3 : ∀ u, L2.RelV v3 u → u = c3)
    (hb : ∀ (W : WX) (pn : List (Addr × Obj)) (xe : Value → Shared → Prop), Takes (X.tr pn xe) W → PassesOwn (model X.prog X.w) X.A X.env xe → PSs (X.tr pn xe) body (tb W))
    (hsu : ∀ (a : Addr) (oe : Obj) (cls : Value) (d : Option Addr) (pn : List (Addr × Obj)), Zc cls d oe → (∃ vs, oe.data = .fields vs) → PSs (X.suite a ((a, oe) :: pn)) (b₀ :: suite) (ts a cls d)) :
    PS X (.Try body [.ExceptHandler (some (.Tuple es x1 np)) (some n) (b₀ :: suite) pos'] [] [] pos) (fun D σ H => tb (wTup3 X.K [c1, c2, c3] i X.N.length ts D) D σ H) := by
  refine ⟨fun pins s σ H D I h => ?_⟩
  have ok := I.ok
  have hloc : Loc X.env.scope n := .inl hln
  refine wpAny_Try_except ?_
  refine wpAny_mono ((hb (wTup3 X.K [c1, c2, c3] i X.N.length ts D) (X.pn ++ pins) (fun e s₁ => wpAny (model X.prog X.w) X.A (noteFrame e X.env) (fun _ s₂ => wpAny (model X.prog X.w) X.A (setFlight e none) (fun _ s₃ =>
    wpAny (model X.prog X.w) X.A (handleBy e X.env [.ExceptHandler (some (.Tuple es x1 np)) (some n) (b₀ :: suite) pos']) (SP X pins D) X.xe s₃) X.xe s₂) X.xe s₁) (fun u s' xx => ?_) PassesOwn.looking).run [] s σ H D (I.toTry _) h) (fun f s1 hsp => ?_) (fun e s1 he => he)
  · refine at_rest (rest := fun u => handleBy u X.env [.ExceptHandler (some (.Tuple es x1 np)) (some n) (b₀ :: suite) pos']) hs hf ok xx fun a T oe oT cls d σ' H' B sI h3 ea R => ?_
    subst ea
    obtain ⟨hb1, hyes⟩ := R.w
    obtain ⟨vs3, hd3, _⟩ := R.ed
    refine wpAny_handleBy_cons (codeAny_handlers_test ?_) (by intro q; cases q)
    refine wpAny_Tuple_spliced (wpAny_mono ((hes a ((a, oe) :: (T, oT) :: (X.pn ++ pins))).run np [] _ σ' H' (fun xs H2 => xs = [v1, v2, v3] ∧ H2 = H') R.inv (hta _ _ _ ⟨rfl, rfl⟩)) (fun us s4 ⟨xs, H4, I4, rv, ex, eH⟩ => ?_) fun _ _ z => False.elim z)
    subst ex
    rw [eH] at I4
    obtain ⟨u1, us, e1, rv⟩ : ∃ u r, us = u :: r ∧ L2.RelV v1 u ∧ Vals [v2, v3] r := match rv with | .cons a b => ⟨_, _, rfl, a, b⟩
    obtain ⟨q1, rv⟩ := rv
    obtain ⟨u2, us, e2, rv⟩ : ∃ u r, us = u :: r ∧ L2.RelV v2 u ∧ Vals [v3] r := match rv with | .cons a b => ⟨_, _, rfl, a, b⟩
    obtain ⟨q2, rv⟩ := rv
    obtain ⟨u3, us, e3, rv⟩ : ∃ u r, us = u :: r ∧ L2.RelV v3 u ∧ Vals [] r := match rv with | .cons a b => ⟨_, _, rfl, a, b⟩
    obtain ⟨q3, rv⟩ := rv
    cases rv
    rw [e2, e3] at e1
    rw [e1, r1 _ q1, r2 _ q2, r3 _ q3]
    refine ⟨by show 3 ≤ sizeLine; decide, ?_⟩
    have I5 : Inv (X.suite a ((a, oe) :: (T, oT) :: (X.pn ++ pins))) [] σ' H' { s4 with heap := s4.heap.push { cls := .type "tuple", data := .seq [c1, c2, c3].toArray } } := I4.kept (t' := s4.toks) fun b o e => Heap.get?_push_of_some _ e
    obtain ⟨ga5, na5, nL, nF, _⟩ := I5.pin (a, oe) (List.mem_append_left _ List.mem_cons_self)
    have nL : a ≠ X.env.locals := nL
    have nF : a ∉ X.fs := nF
    have na' : H' a = none := na5
    have LT : PySem.W.Looks (model X.prog X.w) (s4.heap.push { cls := .type "tuple", data := .seq [c1, c2, c3].toArray }) (typeOf (.ref a)) cls := fun A Q E s k q => wpAny_typeOf_ref (k _ _ ga5) (by rw [R.z.1]; exact q)
    have LM := PySem.W.exm_tup3 (M := model X.prog X.w) I5.kIn LT (Heap.get?_push_size _ rfl) hb1
    refine LM.here ?_
    refine codeAny_handlers_suite_as ?_
    obtain ⟨G, IG, gup, fly⟩ := afresh hs hf hex ok R I5
    refine HandSPX.lands_againZ fly fun h4 fl4 up4 => ?_
    have J4 : Inv X pins σ' H' { s4 with heap := h4 } := IG.landed (s' := { s4 with heap := h4 }) (fun b o e hb => PySem.W.hideAll_get _ e hb) fl4.1 ((Heap.UpToSlots.of_keeps gup).trans up4) rfl IG.bare
    obtain ⟨oe4, vs4, he4, hz4, hd4⟩ := fl4.there
    have S4 := J4.suite he4 hd4 na' nL nF
    refine store_ok (X := X.suite a ((a, oe4) :: (X.pn ++ pins))) (v := .ref a) S4 hN hi hloc rfl (fun s5 S5 => ?_) (.inr hln)
    refine wpAny_mono ((hsu a oe4 cls d (X.pn ++ pins) hz4 ⟨_, hd4⟩).run [] s5 _ H' _ S5 (hyes R.inv.len a H' (.refl _) na' na')) (fun f s6 hsp => ?_) (fun _ _ z => False.elim z)
    have end_ : ∀ {σ6 : L2.St} {H6 : Hp} {Q : Shared → Prop}, Inv (X.suite a ((a, oe4) :: (X.pn ++ pins))) [] σ6 H6 s6 → (∀ s7, Inv X pins (σ6.set i none) H6 s7 → Q s7) →
        wpAny (model X.prog X.w) X.A (do bindName X.env n .none; unbindBehindTheSuite X.env n pos') (fun _ s7 => Q s7) X.xe s6 := fun {σ6 H6 Q} S6 hq => gone_ok (S6.unsuite ok) hN hi hln hq
    cases f with
    | next => exact let ⟨σ6, H6, S6, q6⟩ := hsp; end_ S6 fun s7 J7 => ⟨_, _, J7, q6⟩
    | brk => exact let ⟨σ6, H6, S6, q6⟩ := hsp; end_ S6 fun s7 J7 => ⟨_, _, J7, q6⟩
    | cont => exact let ⟨σ6, H6, S6, q6⟩ := hsp; end_ S6 fun s7 J7 => ⟨_, _, J7, q6⟩
    | ret u => exact let ⟨v6, σ6, H6, S6, r6, q6⟩ := hsp; end_ S6 fun s7 J7 => ⟨_, _, _, J7, r6, q6⟩
  · cases f with
    | next => exact let ⟨σ2, H2, J, q⟩ := hsp; wpAny_execs_nil ⟨σ2, H2, J.ofTry ok, q⟩
    | brk => exact let ⟨σ2, H2, J, q⟩ := hsp; ⟨σ2, H2, J.ofTry ok, q⟩
    | cont => exact let ⟨σ2, H2, J, q⟩ := hsp; ⟨σ2, H2, J.ofTry ok, q⟩
    | ret u => exact let ⟨v, σ2, H2, J, r, q⟩ := hsp; ⟨v, σ2, H2, J.ofTry ok, r, q⟩
end
end AG
namespace AG
open PySem PySem.Spec PyProof.Rows L2
open L2H (RoomH PinOk)
/-! ### the field of a pinned exception -/
/-- a: a pinned exception of the class cls, d: its dict -/
structure PinX (X : Cx) (a : Addr) (cls : Value) (d : Option Addr) : Prop where
  ex : ∃ oe vs, (a, oe) ∈ X.pn ∧ Zc cls d oe ∧ oe.data = .fields vs
theorem pe_xp {X : Cx} {a C : Addr} {cls : Value} {d : Option Addr} {e : Expr} {te : TE} {pos : Pos} {n : Str} (p : PinX X a cls d) (T : XfC X.K C) (hno : PySem.W.findIn X.K (.ref C) n = some none) (he : PE X e te) (hb : attributeBase e n X.env (eval e X.env) = eval e X.env := by rfl) :
    PE X (.Attribute e n pos) (tXf a cls d C n te) := by
  obtain ⟨oe, vs, hp, hz, hd⟩ := p.ex
  refine ⟨fun pins s σ H Q I h => attr_of hb (thn (he.run pins s σ H _ I h) fun u s1 ⟨x, H1, I1, rx, ex, ec, dd, fs, v, ed, ea, l, q⟩ => ?_)⟩
  subst ex ec ed
  obtain rfl : u = Value.ref a := rx
  have ha := (I1.pin (a, oe) (List.mem_append_left _ hp)).1
  obtain ⟨mA, hns, hr⟩ : ObjOk X.prog X.w H1 s1.heap dd (.xd fs) := I1.hok dd _ ea
  obtain ⟨od, ho, hl⟩ := lookIn_ns hns
  obtain ⟨u, hu, ru⟩ := RelO.some_of (v := v) (o := mA n) (by rw [← l]; exact hr n)
  exact HandSPX.exc_get I1.kIn ⟨ha, hz.1, by unfold PySem.W.notCls; rw [hd] <;> rfl, by rw [hz.2]; exact ho⟩ T.ga T.gg T.exC (PySem.W.findObj_own T.hdC hno rfl (by rw [hl, hu])) (handed_of ru) ⟨v, H1, I1.tok _, ru, q⟩
/-- where n is not looked at -/
theorem pe_xnever {X : Cx} {e : Expr} : PE X e (fun _ _ _ => False) := ⟨fun _ _ _ _ _ _ h => h.elim⟩
/-! ### a def that gets the caught exception -/
abbrev XSp := Addr → Value → Option Addr → Sp
structure XFn (P : Program) (w : World) (K : PySem.W.Frag) (mg : Str → Option Value) (base : Heap) (k : Nat) (f : Addr) (fd : FuncData) (ps : List Str) (sp : XSp) : Prop where
  len : ∀ a cls d vs H Q E, sp a cls d vs H Q E → vs.length = ps.length
  go : ∀ (A : Around) (outer : List Env) (s : Shared) (H : Hp) (us : List Value) (vs : List V) (Q : VK) (p : Addr × Obj) (cls : Value) (d : Option Addr), RoomH k A → PinOk outer H s p → Zc cls d p.2 → (∃ fv, p.2.data = .fields fv) → Env0 P w K mg base A outer s H → BindsTo s fd ⟨us, []⟩ (ps.zip us) → Vals vs us → sp p.1 cls d vs H Q E0 →
    codeAny (model P w) A (.call (.ref f) ⟨us, []⟩) (CR CX0 outer P w H s Q E0) s
section
variable {P : Program} {w : World} {K : PySem.W.Frag} {mg : Str → Option Value} {base : Heap} {k : Nat} {f : Addr} {name qual : Str} {params : Arguments} {body : List Stmt} {scope : Scope} {fd : FuncData} {N ps : List Str} {sp : XSp}
theorem xfn_of (F : FunD K name qual params body scope [] [] f fd) (S : FnScope N ps scope) (len : ∀ a cls d vs H Q E, sp a cls d vs H Q E → vs.length = ps.length)
    (run : ∀ (cdv : Value) (A : Around) (outer : List Env) (s : Shared) (H : Hp) (vs : List V) (Q : VK) (p : Addr × Obj) (cls : Value) (d : Option Addr), PinX (cxQ P w K mg base N qual scope f cdv A outer s H p) p.1 cls d → sp p.1 cls d vs H Q E0 →
      ∃ t, PSs (cxQ P w K mg base N qual scope f cdv A outer s H p) body t ∧ t { nx := fun _ H' => Q .non H', rt := Q } (L2.start N vs) H) : XFn P w K mg base (k + 1) f fd ps sp := by
  obtain ⟨oc, od, dV, kV, doc, pm, an, cdv, ct, osl, rfl, lk, hcd, _, _⟩ := F.ex
  refine ⟨len, fun A outer s H us vs Q p cls d room pin hz hfv e0 hb r hsp => ?_⟩
  obtain ⟨fv, hfv⟩ := hfv
  have kin : K.In s.heap := e0.mod.kin.keeps fun b o e => (e0.bs b o e).1
  refine codeAny_call_function room.depth (kin _ _ lk) rfl S.co S.gen rfl (PySem.W.codeRec_of kin hcd) (hb _ _ _ _ ?_)
  refine wpAny_newFunctionEnv_cells S.kind (fun ⟨n, v⟩ hy => ?_) fun env he s1 x => ?_
  · rcases S.par n (List.of_mem_zip hy).1 with q | q
    · exact .inl q
    · exact .inr ⟨q, PySem.W.cellsFrom_some _ _ _ (.inl q)⟩
  subst he
  refine ⟨(e0.mod.nolimit.keeps fun b o e => (e0.bs b o e).1).keeps x.toInCall.keep, codeAny_func ?_⟩
  obtain ⟨t, ht, hq⟩ := run cdv A outer s H vs Q p cls d ⟨p.2, fv, List.mem_cons_self, hz, hfv⟩ hsp
  have I := L2H.inv_startH (CX := CX0) (E := E0) (f := f) (cd := cdv) S pin e0 (len _ _ _ _ _ _ _ hsp) r x
  refine wpAny_mono (ht.run [] s1 (L2.start N vs) H _ I hq) (fun fl s2 hs => ?_) fun e s2 hs => hs
  cases fl with
  | ret u => exact let ⟨v, σ2, H2, J, rv, q⟩ := hs; ⟨v, H2, J.os, J.bare, J.base, J.hok, rv, q⟩
  | next => exact let ⟨σ2, H2, J, q⟩ := hs; ⟨V.non, H2, J.os, J.bare, J.base, J.hok, rfl, q⟩
  | brk => exact let ⟨_, _, _, q⟩ := hs; q.elim
  | cont => exact let ⟨_, _, _, q⟩ := hs; q.elim
end
section
variable {X : Cx} {k : Nat} {f : Addr} {fd : FuncData} {ps : List Str} {sp : XSp}
/-- f(..) in an except clause -/
theorem pe_xcall {x : Str} {a : Addr} {oe : Obj} {cls : Value} {d : Option Addr} {pn : List (Addr × Obj)} {es : List Expr} {e : Expr} {t : TA} {p pos : Pos} (F : XFn X.prog X.w X.K X.mg X.base k f fd ps sp) (hk : PySem.W.keepIn X.K (.ref f) = true) (hg : Gl X x) (hm : X.mg x = some (.ref f)) (room : RoomH k X.A) (hb : Binds X.K fd ps [])
    (hz : Zc cls d oe) (hd : ∃ vs, oe.data = .fields vs) (ha : PA (X.suite a ((a, oe) :: pn)) (e :: es) t) (hdb : (x == ("__debug__" : Str)) = false := by decide)
    (he : starEach (e :: es) X.env = (false, eval e X.env) :: starEach es X.env := by rfl) (hpl : (backTo pos (starEach es X.env)).any (·.1) = false := by rfl) :
    PE (X.suite a ((a, oe) :: pn)) (.Call (.Name x p) (e :: es) [] pos) (fun σ H Q => t σ H fun vs H1 => sp a cls d vs H1 Q E0) := by
  refine ⟨fun pins s σ H Q I h => ?_⟩
  refine wpAny_Call_Name_kw (ld_glob (X := X.suite a ((a, oe) :: pn)) I hg hm ?_ hdb)
  refine PySem.W.callWith_K (h₀ := X.base) I.ok.mod.kin hk (thn (ha.run pos pins s σ H _ I h) fun us s1 ⟨vs, H1, I1, r, q⟩ => ⟨I1.kIn, ?_⟩) he hpl
  have hl : us.length = ps.length := by
    rw [← r.length]
    exact F.len _ _ _ _ _ _ _ q
  have b := hb s1 us I1.kIn (by rw [List.append_nil]; exact hl)
  rw [List.append_nil] at b
  have P1 := I1.pin (a, oe) (List.mem_append_left _ List.mem_cons_self)
  have room' : RoomH k (X.suite a ((a, oe) :: pn)).A := ⟨room.dp, room.un⟩
  refine wpAny_call (codeAny_mono (F.go (X.suite a ((a, oe) :: pn)).A X.stack s1 H1 us vs Q (a, oe) cls d room' ⟨P1.1, P1.2.1, fun hm => (List.mem_cons.mp (I1.stkSub a hm)).elim P1.2.2.1 P1.2.2.2.1, P1.2.2.2.2⟩ hz hd I1.env0 b r q) fun r s' hq => ?_)
  cases r with
  | error e => exact hq.elim
  | ok fl =>
    cases fl with
    | ret u => exact I1.after hq
    | next => exact hq.elim
    | brk => exact hq.elim
    | cont => exact hq.elim
end
/-! ### _law_fields -/
def Er.args : Er → List PyData
  | .circ x => [.str x]
  | .inuse x => [.str x]
  | .full n => [.int n]
  | .unknown x => [.str x]
  | .nothing => []
def Er.code : Er → Str
  | .circ _ => "Circular"
  | .inuse _ => "NameInUse"
  | .full _ => "Full"
  | .unknown _ => "UnknownName"
  | .nothing => "NothingLeft"
theorem Er.d_eq (e : Er) : e.d = .tuple [.str e.code, .tuple e.args] := by cases e <;> rfl
def Er.fld : Er → Option Str
  | .circ _ => some "name"
  | .inuse _ => some "user"
  | .full _ => some "most"
  | .unknown _ => some "value"
  | .nothing => none
theorem Sees.of {K : PySem.W.Frag} {mg : Str → Option Value} {c : Cs} (S : Sees K mg c) : ∀ e : Er, Seen K c (e.cls c) e.fld
  | .circ _ => S.s_circ
  | .inuse _ => S.s_inuse
  | .full _ => S.s_full
  | .unknown _ => S.s_unknown
  | .nothing => S.s_nothing
theorem in_lit {K : PySem.W.Frag} {code : Str} {xs : List V} {b : Bool} {σ : L2.St} {H : Hp} {Q : VK} {i : Nat} {tcs : TA} (hs : σ[i]? = some (some (.str code))) (ht : ∀ Q : List V → Hp → Prop, Q xs H → tcs σ H Q) (hl : xs.length ≤ sizeLine) (hf : xs.all flatV = true) (hb : inV (.str code) xs = b)
    (q : ∀ H', Same H H' → Q (.bl b) H') : tOp (rInC K false) (tVar i) (tTup tcs) σ H Q := by
  refine ⟨_, hs, ht _ ⟨hl, fun p np => ⟨p, xs, rfl, .inr (SqT.of upd_same), rfl, hf, fun z => ?_, fun z => ?_⟩⟩⟩
  · rw [hb] at z
    rw [z] at q
    exact q _ (same_new np)
  · rw [hb] at z
    rw [z] at q
    exact q _ (same_new np)
theorem one_dat {H0 H : Hp} {v : V} {d : PyData} {p : Addr} (s : Same H0 H) (n : H p = none) (hv : ∀ Mu, Dat Mu (upd H p (.tup [v])) v d) : Same H0 (upd H p (.tup [v])) ∧ ∀ Mu, Wl Mu H0 → Dat Mu (upd H p (.tup [v])) (.ref p) (.tuple [d]) :=
  ⟨s.trans (same_new n), fun Mu wl => .tup (fun m => (wl.same s) p m n) upd_same (.cons (hv Mu) .nil)⟩
def spFields (c : Cs) : XSp := fun a cls d vs H Q _ => ∃ (e : Er) (dd : Addr), vs = [.ref a] ∧ cls = .ref (e.cls c) ∧ d = some dd ∧ H dd = some (.xd e.flds) ∧ ∀ v H', Same H H' → (∀ Mu, Wl Mu H → Dat Mu H' v (.tuple e.args)) → Q v H'
theorem sc__law_fields : FnScope ["_law_e", "_law_code"] ["_law_e"] (defScope s__law_fields) := ⟨rfl, rfl, rfl, by decide +kernel, rfl, by decide +kernel, by decide +kernel⟩
section
variable {P : Program} {w : World} {K : PySem.W.Frag} {mg : Str → Option Value} {base : Heap} {c : Cs}
theorem ok__law_fields (T : Txt w K mg c) (S : Sees K mg c) : ∃ (f : Addr) (fd : FuncData), mg "_law_fields" = some (.ref f) ∧ PySem.W.keepIn K (.ref f) = true ∧ XFn P w K mg base 1 f fd ["_law_e"] (spFields c) ∧ Binds K fd ["_law_e"] [] := by
  obtain ⟨f, fd, hm, F⟩ := T.d__law_fields.ex
  refine ⟨f, fd, hm, F.kp, xfn_of F sc__law_fields (fun a cls d vs H Q E ⟨_, _, e, _⟩ => by rw [e]; rfl) (fun cdv A outer s H vs Q p cls d px h => ?_), F.bindsN (fun _ _ _ _ _ _ us hl => match us, hl with | [_], _ => rfl)⟩
  obtain ⟨e, dd, rfl, rfl, rfl, hx, q⟩ := h
  have sn := S.of e
  cases e with
  | circ x =>
    refine ⟨_, (pss_cons (ps_set (i := 1) sc__law_fields.nd rfl (Or.inl rfl) (pe_xp px sn.xf sn.code (pv 0)))
      (pss_cons (ps_if (pt_cmpR op_inC (pv 1) (pe_tup (pa_cons pe_str (pa_cons pe_str (pa_cons pe_str (pa_cons pe_str (pa_cons pe_str pa_nil)))))) rfl) (pss_one (ps_ret (pe_tup (pa_cons pe_xnever pa_nil)))) pss_nil)
      (pss_cons (ps_if (pt_cmpR op_inC (pv 1) (pe_tup (pa_cons pe_str (pa_cons pe_str pa_nil))) rfl) (pss_one (ps_ret (pe_tup (pa_cons pe_xnever pa_nil)))) pss_nil)
      (pss_cons (ps_if (pt_cmpR op_inC (pv 1) (pe_tup (pa_cons pe_str (pa_cons pe_str pa_nil))) rfl) (pss_one (ps_ret (pe_tup (pa_cons pe_xnever pa_nil)))) pss_nil)
      (pss_cons (ps_if (pt_cmpR op_inC (pv 1) (pe_tup (pa_cons pe_str (pa_cons pe_str (pa_cons pe_str pa_nil)))) rfl) (pss_one (ps_ret (pe_tup (pa_cons pe_xnever pa_nil)))) pss_nil)
      (pss_cons (ps_if (pt_cmpR op_eqC (pv 1) pe_str (nomark _)) (pss_one (ps_ret (pe_tup (pa_cons pe_xnever pa_nil)))) pss_nil)
      (pss_cons (ps_if (pt_cmpR op_eqC (pv 1) pe_str (nomark _)) (pss_one (ps_ret (pe_tup (pa_cons (pe_xp px sn.xf (sn.fld _ rfl) (pv 0)) pa_nil)))) pss_nil)
      pss_never))))))), ?_⟩
    refine ⟨_, rfl, rfl, rfl, _, _, _, rfl, hx, rfl, ?_⟩
    refine in_lit rfl (fun Q q => q) (by show 5 ≤ sizeLine; decide) rfl (by decide +kernel) fun H1 s1 => ⟨_, rfl, iteF ?_⟩
    refine in_lit rfl (fun Q q => q) (by show 2 ≤ sizeLine; decide) rfl (by decide +kernel) fun H2 s2 => ⟨_, rfl, iteF ?_⟩
    refine in_lit rfl (fun Q q => q) (by show 2 ≤ sizeLine; decide) rfl (by decide +kernel) fun H3 s3 => ⟨_, rfl, iteF ?_⟩
    refine in_lit rfl (fun Q q => q) (by show 3 ≤ sizeLine; decide) rfl (by decide +kernel) fun H4 s4 => ⟨_, rfl, iteF ?_⟩
    have sa := (((s1.trans s2).trans s3).trans s4)
    refine ⟨_, rfl, rfl, fun z => absurd z (by decide +kernel), fun _ => ⟨_, rfl, iteF ?_⟩⟩
    refine ⟨_, rfl, rfl, fun _ => ⟨_, rfl, iteT ?_⟩, fun z => absurd rfl z⟩
    refine ⟨_, rfl, rfl, rfl, _, _, _, rfl, sa _ _ hx, rfl, by show 1 ≤ sizeLine; decide, fun p9 n9 => ?_⟩
    exact q _ _ (one_dat sa n9 fun _ => .str x).1 (one_dat sa n9 fun _ => .str x).2
  | inuse x =>
    refine ⟨_, (pss_cons (ps_set (i := 1) sc__law_fields.nd rfl (Or.inl rfl) (pe_xp px sn.xf sn.code (pv 0)))
      (pss_cons (ps_if (pt_cmpR op_inC (pv 1) (pe_tup (pa_cons pe_str (pa_cons pe_str (pa_cons pe_str (pa_cons pe_str (pa_cons pe_str pa_nil)))))) rfl) (pss_one (ps_ret (pe_tup (pa_cons pe_xnever pa_nil)))) pss_nil)
      (pss_cons (ps_if (pt_cmpR op_inC (pv 1) (pe_tup (pa_cons pe_str (pa_cons pe_str pa_nil))) rfl) (pss_one (ps_ret (pe_tup (pa_cons pe_xnever pa_nil)))) pss_nil)
      (pss_cons (ps_if (pt_cmpR op_inC (pv 1) (pe_tup (pa_cons pe_str (pa_cons pe_str pa_nil))) rfl) (pss_one (ps_ret (pe_tup (pa_cons pe_xnever pa_nil)))) pss_nil)
      (pss_cons (ps_if (pt_cmpR op_inC (pv 1) (pe_tup (pa_cons pe_str (pa_cons pe_str (pa_cons pe_str pa_nil)))) rfl) (pss_one (ps_ret (pe_tup (pa_cons pe_xnever pa_nil)))) pss_nil)
      (pss_cons (ps_if (pt_cmpR op_eqC (pv 1) pe_str (nomark _)) (pss_one (ps_ret (pe_tup (pa_cons pe_xnever pa_nil)))) pss_nil)
      (pss_cons (ps_if (pt_cmpR op_eqC (pv 1) pe_str (nomark _)) (pss_one (ps_ret (pe_tup (pa_cons pe_xnever pa_nil)))) pss_nil)
      (pss_cons (ps_if (pt_cmpR op_eqC (pv 1) pe_str (nomark _)) (pss_one (ps_ret (pe_tup (pa_cons (pe_xp px sn.xf (sn.fld _ rfl) (pv 0)) pa_nil)))) pss_nil)
      pss_never)))))))), ?_⟩
    refine ⟨_, rfl, rfl, rfl, _, _, _, rfl, hx, rfl, ?_⟩
    refine in_lit rfl (fun Q q => q) (by show 5 ≤ sizeLine; decide) rfl (by decide +kernel) fun H1 s1 => ⟨_, rfl, iteF ?_⟩
    refine in_lit rfl (fun Q q => q) (by show 2 ≤ sizeLine; decide) rfl (by decide +kernel) fun H2 s2 => ⟨_, rfl, iteF ?_⟩
    refine in_lit rfl (fun Q q => q) (by show 2 ≤ sizeLine; decide) rfl (by decide +kernel) fun H3 s3 => ⟨_, rfl, iteF ?_⟩
    refine in_lit rfl (fun Q q => q) (by show 3 ≤ sizeLine; decide) rfl (by decide +kernel) fun H4 s4 => ⟨_, rfl, iteF ?_⟩
    have sa := (((s1.trans s2).trans s3).trans s4)
    refine ⟨_, rfl, rfl, fun z => absurd z (by decide +kernel), fun _ => ⟨_, rfl, iteF ?_⟩⟩
    refine ⟨_, rfl, rfl, fun z => absurd z (by decide +kernel), fun _ => ⟨_, rfl, iteF ?_⟩⟩
    refine ⟨_, rfl, rfl, fun _ => ⟨_, rfl, iteT ?_⟩, fun z => absurd rfl z⟩
    refine ⟨_, rfl, rfl, rfl, _, _, _, rfl, sa _ _ hx, rfl, by show 1 ≤ sizeLine; decide, fun p9 n9 => ?_⟩
    exact q _ _ (one_dat sa n9 fun _ => .str x).1 (one_dat sa n9 fun _ => .str x).2
  | full x =>
    refine ⟨_, (pss_cons (ps_set (i := 1) sc__law_fields.nd rfl (Or.inl rfl) (pe_xp px sn.xf sn.code (pv 0)))
      (pss_cons (ps_if (pt_cmpR op_inC (pv 1) (pe_tup (pa_cons pe_str (pa_cons pe_str (pa_cons pe_str (pa_cons pe_str (pa_cons pe_str pa_nil)))))) rfl) (pss_one (ps_ret (pe_tup (pa_cons pe_xnever pa_nil)))) pss_nil)
      (pss_cons (ps_if (pt_cmpR op_inC (pv 1) (pe_tup (pa_cons pe_str (pa_cons pe_str pa_nil))) rfl) (pss_one (ps_ret (pe_tup (pa_cons pe_xnever pa_nil)))) pss_nil)
      (pss_cons (ps_if (pt_cmpR op_inC (pv 1) (pe_tup (pa_cons pe_str (pa_cons pe_str pa_nil))) rfl) (pss_one (ps_ret (pe_tup (pa_cons pe_xnever pa_nil)))) pss_nil)
      (pss_cons (ps_if (pt_cmpR op_inC (pv 1) (pe_tup (pa_cons pe_str (pa_cons pe_str (pa_cons pe_str pa_nil)))) rfl) (pss_one (ps_ret (pe_tup (pa_cons (pe_xp px sn.xf (sn.fld _ rfl) (pv 0)) pa_nil)))) pss_nil)
      pss_never))))), ?_⟩
    refine ⟨_, rfl, rfl, rfl, _, _, _, rfl, hx, rfl, ?_⟩
    refine in_lit rfl (fun Q q => q) (by show 5 ≤ sizeLine; decide) rfl (by decide +kernel) fun H1 s1 => ⟨_, rfl, iteF ?_⟩
    refine in_lit rfl (fun Q q => q) (by show 2 ≤ sizeLine; decide) rfl (by decide +kernel) fun H2 s2 => ⟨_, rfl, iteF ?_⟩
    refine in_lit rfl (fun Q q => q) (by show 2 ≤ sizeLine; decide) rfl (by decide +kernel) fun H3 s3 => ⟨_, rfl, iteF ?_⟩
    refine in_lit rfl (fun Q q => q) (by show 3 ≤ sizeLine; decide) rfl (by decide +kernel) fun H4 s4 => ⟨_, rfl, iteT ?_⟩
    have sa := (((s1.trans s2).trans s3).trans s4)
    refine ⟨_, rfl, rfl, rfl, _, _, _, rfl, sa _ _ hx, rfl, by show 1 ≤ sizeLine; decide, fun p9 n9 => ?_⟩
    exact q _ _ (one_dat sa n9 fun _ => .int x).1 (one_dat sa n9 fun _ => .int x).2
  | unknown x =>
    refine ⟨_, (pss_cons (ps_set (i := 1) sc__law_fields.nd rfl (Or.inl rfl) (pe_xp px sn.xf sn.code (pv 0)))
      (pss_cons (ps_if (pt_cmpR op_inC (pv 1) (pe_tup (pa_cons pe_str (pa_cons pe_str (pa_cons pe_str (pa_cons pe_str (pa_cons pe_str pa_nil)))))) rfl) (pss_one (ps_ret (pe_tup (pa_cons (pe_xp px sn.xf (sn.fld _ rfl) (pv 0)) pa_nil)))) pss_nil)
      pss_never)), ?_⟩
    refine ⟨_, rfl, rfl, rfl, _, _, _, rfl, hx, rfl, ?_⟩
    refine in_lit rfl (fun Q q => q) (by show 5 ≤ sizeLine; decide) rfl (by decide +kernel) fun H1 s1 => ⟨_, rfl, iteT ?_⟩
    have sa := s1
    refine ⟨_, rfl, rfl, rfl, _, _, _, rfl, sa _ _ hx, rfl, by show 1 ≤ sizeLine; decide, fun p9 n9 => ?_⟩
    exact q _ _ (one_dat sa n9 fun _ => .str x).1 (one_dat sa n9 fun _ => .str x).2
  | nothing =>
    refine ⟨_, (pss_cons (ps_set (i := 1) sc__law_fields.nd rfl (Or.inl rfl) (pe_xp px sn.xf sn.code (pv 0)))
      (pss_cons (ps_if (pt_cmpR op_inC (pv 1) (pe_tup (pa_cons pe_str (pa_cons pe_str (pa_cons pe_str (pa_cons pe_str (pa_cons pe_str pa_nil)))))) rfl) (pss_one (ps_ret (pe_tup (pa_cons pe_xnever pa_nil)))) pss_nil)
      (pss_cons (ps_if (pt_cmpR op_inC (pv 1) (pe_tup (pa_cons pe_str (pa_cons pe_str pa_nil))) rfl) (pss_one (ps_ret (pe_tup (pa_cons pe_xnever pa_nil)))) pss_nil)
      (pss_cons (ps_if (pt_cmpR op_inC (pv 1) (pe_tup (pa_cons pe_str (pa_cons pe_str pa_nil))) rfl) (pss_one (ps_ret (pe_tup (pa_cons pe_xnever pa_nil)))) pss_nil)
      (pss_cons (ps_if (pt_cmpR op_inC (pv 1) (pe_tup (pa_cons pe_str (pa_cons pe_str (pa_cons pe_str pa_nil)))) rfl) (pss_one (ps_ret (pe_tup (pa_cons pe_xnever pa_nil)))) pss_nil)
      (pss_cons (ps_if (pt_cmpR op_eqC (pv 1) pe_str (nomark _)) (pss_one (ps_ret (pe_tup (pa_cons pe_xnever pa_nil)))) pss_nil)
      (pss_cons (ps_if (pt_cmpR op_eqC (pv 1) pe_str (nomark _)) (pss_one (ps_ret (pe_tup (pa_cons pe_xnever pa_nil)))) pss_nil)
      (pss_cons (ps_if (pt_cmpR op_eqC (pv 1) pe_str (nomark _)) (pss_one (ps_ret (pe_tup (pa_cons pe_xnever pa_nil)))) pss_nil)
      (pss_one (ps_ret (pe_ifExp (pt_cmpR op_eqC (pv 1) pe_str (nomark _)) (pe_tup (pa_cons pe_xnever (pa_cons pe_xnever pa_nil))) (pe_tup pa_nil)))))))))))), ?_⟩
    refine ⟨_, rfl, rfl, rfl, _, _, _, rfl, hx, rfl, ?_⟩
    refine in_lit rfl (fun Q q => q) (by show 5 ≤ sizeLine; decide) rfl (by decide +kernel) fun H1 s1 => ⟨_, rfl, iteF ?_⟩
    refine in_lit rfl (fun Q q => q) (by show 2 ≤ sizeLine; decide) rfl (by decide +kernel) fun H2 s2 => ⟨_, rfl, iteF ?_⟩
    refine in_lit rfl (fun Q q => q) (by show 2 ≤ sizeLine; decide) rfl (by decide +kernel) fun H3 s3 => ⟨_, rfl, iteF ?_⟩
    refine in_lit rfl (fun Q q => q) (by show 3 ≤ sizeLine; decide) rfl (by decide +kernel) fun H4 s4 => ⟨_, rfl, iteF ?_⟩
    have sa := (((s1.trans s2).trans s3).trans s4)
    refine ⟨_, rfl, rfl, fun z => absurd z (by decide +kernel), fun _ => ⟨_, rfl, iteF ?_⟩⟩
    refine ⟨_, rfl, rfl, fun z => absurd z (by decide +kernel), fun _ => ⟨_, rfl, iteF ?_⟩⟩
    refine ⟨_, rfl, rfl, fun z => absurd z (by decide +kernel), fun _ => ⟨_, rfl, iteF ?_⟩⟩
    refine ⟨_, rfl, rfl, fun z => absurd z (by decide +kernel), fun _ => ⟨_, rfl, iteF ?_⟩⟩
    refine ⟨by show 0 ≤ sizeLine; decide, fun p9 n9 => ?_⟩
    exact q _ _ (sa.trans (same_new n9)) fun Mu wl => .tup (fun m => (wl.same sa) p9 m n9) upd_same .nil
end
end AG
namespace AG
open PySem PySem.Spec PyProof.Rows L2
open LamX (CodeO TabB codeO_ne among_app inv_table)
open NdefX (NF CellsAt ncx envF startF NScope inv_startN)
/-! ### a table of code objects, a lambda made -/
/-- the table at P tells code objects of the name q only; neither it nor they may change -/
def TabO (Mu : Mut1) (H : Hp) (P : Addr) (q : Str) : Prop := ¬ Mu P ∧ ∃ ps : Array Value, H P = some (.tbl ps) ∧ TriplesOk ps.toList ∧ ∀ (pos : Pos) (cv : Value), codeAmong pos ps.toList = some cv → ∃ c, cv = .ref c ∧ ¬ Mu c ∧ H c = some (CodeO c q)
theorem TabO.tr {Mu Mv : Mut1} {H H' : Hp} {P : Addr} {q : Str} (h : TabO Mu H P q) (t : Tr Mu H Mv H') : TabO Mv H' P q := by
  obtain ⟨m, ps, h1, h2, h3⟩ := h
  refine ⟨t.off m h1, ps, t.kp.at_ _ _ m h1, h2, fun pos cv e => ?_⟩
  obtain ⟨c, e1, m1, e2⟩ := h3 pos cv e
  exact ⟨c, e1, t.off m1 e2, t.kp.at_ _ _ m1 e2⟩
/-- only the table at P changes -/
structure Tb (P : Addr) (H H1 : Hp) : Prop where
  kp : Kp (fun b => b = P) H H1
  tb : ∃ ps, H P = some (.tbl ps)
theorem Tb.at_ {P : Addr} {H H1 : Hp} (t : Tb P H H1) {b : Addr} {o : HO} (h : H b = some o) (n : ∀ ps, o ≠ .tbl ps) : H1 b = some o := t.kp.at_ b o (fun z => by
  obtain ⟨ps, e⟩ := t.tb
  have z : b = P := z
  rw [z, e] at h
  exact n ps (Option.some.inj h).symm) h
theorem TabO.tb {Mu : Mut1} {H H1 : Hp} {P P2 : Addr} {q : Str} (h : TabO Mu H P2 q) (t : Tb P H H1) (n : P2 ≠ P) : TabO Mu H1 P2 q := by
  obtain ⟨m, ps, h1, h2, h3⟩ := h
  refine ⟨m, ps, t.kp.at_ _ _ n h1, h2, fun pos cv e => ?_⟩
  obtain ⟨c, e1, m1, e2⟩ := h3 pos cv e
  exact ⟨c, e1, m1, t.at_ e2 codeO_ne⟩
section
variable {X : Cx} {pins : List (Addr × Obj)} {σ : L2.St} {H : Hp} {s : Shared}
theorem lam_make3 {Mu : Mut1} {c P : Addr} {params : Arguments} {body : Expr} {scope : Scope} {pos : Pos} {E : Value → Shared → Prop} {Q : Value → Shared → Prop} (I : Inv X pins σ H s) (TB : TabB X.base X.mg c P) (hcode : X.env.code = .ref c) (wl : Wl Mu H) (hT : TabO Mu H P (X.env.qual ++ "<lambda>"))
    (hdef : defaultsOf params X.env = ([], [])) (hfree : ∀ y ∈ scope.names, y.2 = .free → ∃ c, X.env.cells.lookup y.1 = some c)
    (h : ∀ (f c' : Addr) (pm ctv : Value) (H1 : Hp) (s' : Shared), Inv X pins σ H1 s' → Tb P H H1 → TabO Mu H1 P (X.env.qual ++ "<lambda>") →
      s'.heap.get? f = some (PySem.W.kla_obj "<lambda>" (X.env.qual ++ "<lambda>") params body scope (cloFrom X.env.cells scope.names []) pm c' ctv) → H1 f = none → f ∉ frs X.stack → H1 c' = some (CodeO c' (X.env.qual ++ "<lambda>")) → Q (.ref f) s') :
    wpAny (model X.prog X.w) X.A (eval (.Lambda params body scope pos) X.env) Q E s := by
  obtain ⟨mP, ps, hP, ht, ha⟩ := hT
  have bP : s.heap.BuiltinsAt X.mg P := TB.bm.keeps I.bk
  have gP : s.heap.get? P = some { cls := .none, data := .fields ps } := I.hok P _ hP
  have free_ : ∀ f, s.heap.objs.size ≤ f → f ∉ frs X.stack := fun f hf z => (List.mem_cons.mp (I.stkSub _ z)).elim (fun e => Nat.lt_irrefl _ (Nat.lt_of_lt_of_le I.lt (e ▸ hf))) (I.nofs hf)
  refine PySem.W.kla_eval hdef ?_
  cases hc : codeAmong pos ps.toList with
  | some cv =>
    obtain ⟨c', e, mc, hco⟩ := ha pos cv hc
    subst e
    refine PySem.W.kla_makeFunctionHit (mg := X.mg) (c := c) (P := P) (ps := ps) (closure_ok hfree) I.ok.glob (I.mod.glob.keeps I.bk) hcode (TB.code.keeps I.bk) gP ht hc bP fun ctv h' tk hx hsz => ?_
    have I1 : Inv X pins σ H { s with heap := h'.push (PySem.W.kla_obj "<lambda>" (X.env.qual ++ "<lambda>") params body scope (cloFrom X.env.cells scope.names []) ((X.mg "__name__").getD .none) c' ctv), toks := tk } := I.kept fun b o e => Heap.get?_push_of_some _ (hx b o e)
    exact h h'.objs.size c' _ ctv H _ I1 ⟨.refl _, ps, hP⟩ ⟨mP, ps, hP, ht, ha⟩ (Heap.get?_push_size _ rfl) (I.hok.fresh hsz) (free_ _ hsz) hco
  | none =>
    refine PySem.W.kla_makeFunction (mg := X.mg) (c := c) (P := P) (ps := ps) (closure_ok hfree) I.ok.glob (I.mod.glob.keeps I.bk) hcode (TB.code.keeps I.bk) gP ht hc TB.gP bP fun c' ctv h' tk hx hge hlt hrec htb => ?_
    obtain ⟨c2, oc, vs, t, e2, hoc, hd, hv⟩ := hrec
    cases e2
    have hsz : s.heap.objs.size ≤ h'.objs.size := Nat.le_trans hge (Nat.le_of_lt hlt)
    have nC : H c' = none := I.hok.fresh hge
    have nPc : P ≠ c' := ne_of_none hP nC
    have I1 := inv_table (t' := tk) (more := #[rawInt pos.line, rawInt pos.col, .ref c']) (h' := h'.push (PySem.W.kla_obj "<lambda>" (X.env.qual ++ "<lambda>") params body scope (cloFrom X.env.cells scope.names []) ((X.mg "__name__").getD .none) c' ctv)) I hP
      (fun b o hb e => Heap.get?_push_of_some _ (hx b o hb e)) (Heap.get?_push_of_some _ htb) hge ⟨oc, vs, t, Heap.get?_push_of_some _ hoc, hd, hv⟩
    have k1 : Kp (fun b => b = P) H (upd (upd H P (.tbl (ps ++ #[rawInt pos.line, rawInt pos.col, .ref c']))) c' (CodeO c' (X.env.qual ++ "<lambda>"))) := by
      refine ⟨fun b o m e => ?_, fun b e => ?_⟩
      · rw [upd_ne (ne_of_none e nC), upd_ne m]
        exact e
      · by_cases z : b = c'
        · rw [z, upd_same]
          exact fun z => nomatch z
        · rw [upd_ne z]
          by_cases z2 : b = P
          · rw [z2, upd_same]
            exact fun z => nomatch z
          · rw [upd_ne z2]
            exact e
    have t1 : Tb P H (upd (upd H P (.tbl (ps ++ #[rawInt pos.line, rawInt pos.col, .ref c']))) c' (CodeO c' (X.env.qual ++ "<lambda>"))) := ⟨k1, ps, hP⟩
    have eL : (ps ++ #[rawInt pos.line, rawInt pos.col, .ref c']).toList = ps.toList ++ [rawInt pos.line, rawInt pos.col, .ref c'] := by simp
    refine h h'.objs.size c' _ ctv _ _ I1 t1 ⟨mP, _, by rw [upd_ne nPc, upd_same], by rw [eL]; exact PySem.TriplesOk_snoc _ _ _ _ ht, fun p' cv hcv => ?_⟩ (Heap.get?_push_size _ rfl) ?_ (free_ _ hsz) upd_same
    · rw [eL] at hcv
      rcases among_app _ ht hcv with z | z
      · obtain ⟨c0, e1, m1, e2⟩ := ha p' cv z
        exact ⟨c0, e1, m1, t1.at_ e2 codeO_ne⟩
      · exact ⟨c', z, fun m => wl c' m nC, upd_same⟩
    · rw [upd_ne (Nat.ne_of_gt hlt), upd_ne (Nat.ne_of_gt (Nat.lt_of_lt_of_le (Heap.lt_size gP) hsz))]
      exact I.hok.fresh hsz
end
/-! ### what was made: a function without parameters -/
structure LW where
  qual : Str
  params : Arguments
  body : Expr
  scope : Scope
  fr : List Str
structure LW.Ok (L : LW) : Prop where
  sc : NScope L.fr [] L.fr L.scope
  bind : ∀ (cl : List (Str × Addr)) (pm cv ctv : Value), bindArgs (PySem.W.kla_fn "<lambda>" L.qual L.params L.body L.scope cl pm cv ctv) ⟨[], []⟩ = pure []
abbrev LW.nf (L : LW) (cl : List (Str × Addr)) (c' : Addr) : NF := ⟨"<lambda>", L.qual, L.params, [], L.scope, cl, c'⟩
/-- f is one, in the state; ws: what its captured names hold -/
structure LamAt (X : Cx) (H : Hp) (s : Shared) (f : Addr) (L : LW) (ws : List (Option V)) : Prop where
  ex : ∃ cl pm c' ctv, s.heap.get? f = some (PySem.W.kla_obj "<lambda>" L.qual L.params L.body L.scope cl pm c' ctv) ∧ H f = none ∧ f ∉ frs X.stack ∧ CellsAt cl L.fr ws s.heap H ∧ H c' = some (CodeO c' L.qual)
theorem un_cells {l : List Addr} {H H' : Hp} {h h' : Heap} {cl : List (Str × Addr)} {fr : List Str} {ws : List (Option V)} (u : Un l [] H H' h h') (C : CellsAt cl fr ws h H) : CellsAt cl fr ws h' H' := by
  have kp : ∀ y c, cl.lookup y = some c → ∀ v, h.IsCell c v → h'.IsCell c v := fun y c e v ⟨o, ho, hd⟩ => by
    obtain ⟨sl, q⟩ := u.any ho (C.all y c e).1 (by simp)
    exact ⟨_, q, hd⟩
  refine ⟨C.len, fun y c e => ?_, C.inj, fun i y e => ?_⟩
  · obtain ⟨n, v, z⟩ := C.all y c e
    obtain ⟨o, ho, hd⟩ := id z
    exact ⟨u.free c o ho n (by simp), v, kp y c e v z⟩
  · obtain ⟨c, hc, hv⟩ := C.has i y e
    exact ⟨c, hc, fun v ev => let ⟨w, r, z⟩ := hv v ev; ⟨w, r, kp y c hc _ z⟩⟩
/-- the context of its body -/
abbrev lcx (P : Program) (w : World) (K : PySem.W.Frag) (mg : Str → Option Value) (base : Heap) (L : LW) (cl : List (Str × Addr)) (c' f : Addr) (A : Around) (outer : List Env) (s : Shared) (H : Hp) (E : XK) : Cx := ncx (L2.CX P w) P w K mg base L.fr (L.nf cl c') f A outer s H E
/-- its body's reading, at any entry -/
def LamOk (P : Program) (w : World) (K : PySem.W.Frag) (mg : Str → Option Value) (base : Heap) (k : Nat) (L : LW) (tb : XK → TE) : Prop := ∀ (cl : List (Str × Addr)) (c' f : Addr) (A : Around) (outer : List Env) (s : Shared) (H : Hp) (E : XK), Room k (A.deeper (envF (L.nf cl c') f s.heap.objs.size)) →
  PE (lcx P w K mg base L cl c' f A outer s H E) L.body (tb E)
section
variable {X : Cx} {pins : List (Addr × Obj)} {σ : L2.St} {H HZ : Hp} {s s1 : Shared}
/-- x(), in the def that got it -/
theorem pe_ask {Eg : XK} {Ng : List Str} {qg : Str} {sg : Scope} {g f c' : Addr} {cl : List (Str × Addr)} {cdg pm ctv : Value} {L : LW} {ws : List (Option V)} {k i : Nat} {a : Str} {pn : List (Addr × Obj)} {xe : Value → Shared → Prop} {W : WX} {E : XK} {tb : XK → TE} {p1 p2 : Pos}
    (I : Inv X pins σ H s) (LO : L.Ok) (hf : s.heap.get? f = some (PySem.W.kla_obj "<lambda>" L.qual L.params L.body L.scope cl pm c' ctv)) (hfn : H f = none) (hfr : f ∉ frs X.stack) (C : CellsAt cl L.fr ws s.heap H)
    (tk : Takes ((cxOf CX0 X.prog X.w X.K X.mg X.base Ng qg sg g cdg X.A X.stack s H Eg).tr pn xe) W) (hW : ∀ cls d σ' H', E cls d H' → W cls d σ' H') (hr : Room (k + 1) (X.A.deeper (envOfC qg sg s.heap.objs.size g cdg)))
    (hbody : LamOk X.prog X.w X.K X.mg X.base k L tb) (hN : Ng[i]? = some a) (hv : Vis sg a) (hd : (a == ("__debug__" : Str)) = false := by decide) (hcd : (a == ("__classdict__" : Str)) = false := by decide) :
    PE ((cxOf CX0 X.prog X.w X.K X.mg X.base Ng qg sg g cdg X.A X.stack s H Eg).tr pn xe) (.Call (.Name a p1) [] [] p2)
      (fun σZ HZ Q => σZ[i]? = some (some (.ref f)) ∧ HZ c' = some (CodeO c' L.qual) ∧ tb E (startF L.fr [] ws) HZ Q) := by
  refine ⟨fun pinsZ sZ σZ HZ Q IZ ⟨hs, hc, ht⟩ => ?_⟩
  refine wpAny_Call_Name_kw (thn ((pe_var (pos := p1) (i := i) hN hv hd hcd).run pinsZ sZ σZ HZ (fun v H1 => v = .ref f ∧ H1 = HZ) IZ ⟨.ref f, hs, rfl, rfl⟩) fun u s1 ⟨v, H1, I1, r1, ev, eH⟩ => ?_)
  subst ev
  rw [eH] at I1
  obtain rfl : u = Value.ref f := r1
  have of1 : s1.heap.get? f = some (PySem.W.kla_obj "<lambda>" L.qual L.params L.body L.scope cl pm c' ctv) := I1.base.keep f _ hf hfn hfr fun z => nomatch (show f ∈ ([] : List Addr) from z)
  refine PySem.W.callWith_F0 ⟨_, _, _, _, of1⟩ ?_
  have un : Un (frs X.stack) [] H HZ s.heap s1.heap := I1.base
  have C1 := un_cells un C
  obtain ⟨⟨oc, vs, t, hoc, hdc, hvc⟩, _, _⟩ := I1.hok c' _ hc
  have rc : codeAny (model X.prog X.w) (X.A.deeper (envOfC qg sg s.heap.objs.size g cdg)) (.call (.ref f) ⟨[], []⟩) (CR (L2.CX X.prog X.w) (envOfC qg sg s.heap.objs.size g cdg :: X.stack) X.prog X.w HZ s1 Q E) s1 := by
    refine PySem.W.kla_callFunE hr.depth of1 rfl LO.sc.co LO.sc.gen rfl ⟨c', oc, vs, t, rfl, hoc, hdc, hvc⟩ ?_
    rw [LO.bind]
    refine wpAny_pure (wpAny_newFunctionEnv LO.sc.nocell (fun y hy => absurd hy (by simp)) (fun h₁ hns hsb => ⟨I1.nolimit.fresh _ hsb, ?_⟩) LO.sc.kind)
    have kp : ∀ b o, s1.heap.get? b = some o → h₁.get? b = some o := fun b o e => hsb.extBut b o (Nat.ne_of_lt (Heap.lt_size e)) (Heap.get?_push_of_some _ e)
    have J := inv_startN (CX := L2.CX X.prog X.w) (F := L.nf cl c') (f := f) (E := E) (tk := s1.toks + ([] : List (Str × Value)).length) (ps := []) (us := []) (vs := []) LO.sc hr.hd I1.env0 rfl .nil C1 hns kp
    refine PySem.W.kla_codeExpr (wpAny_mono ((hbody cl c' f _ _ s1 HZ E (hr.deeper _)).run [] _ _ HZ Q J ht) (fun v s' ⟨w2, H2, J2, rv, q⟩ => ⟨w2, H2, J2.os, J2.bare, J2.base, J2.hok, rv, q⟩) fun e s' hq => hq)
  have hx : Passes (L2.CX X.prog X.w) ((cxOf CX0 X.prog X.w X.K X.mg X.base Ng qg sg g cdg X.A X.stack s H Eg).tr pn xe) E := passes_call tk hW
  refine wpAny_call (codeAny_mono rc fun r s' hq => ?_)
  cases r with
  | error e => exact hx pinsZ σZ HZ s1 e s' I1 hq
  | ok fl =>
    cases fl with
    | ret u => exact I1.after hq
    | next => exact hq.elim
    | brk => exact hq.elim
    | cont => exact hq.elim
end
end AG
namespace AG
open PySem PySem.Spec PyProof.Rows L2
open L2H (RoomH)
open LamX (CodeO TabB)
open NdefX (CellsAt startF)
theorem pe_xcode {X : Cx} {a : Addr} {cls : Value} {d : Option Addr} {e : Expr} {te : TE} {pos : Pos} {n : Str} (p : PinX X a cls d) (he : PE X e te) (hb : attributeBase e n X.env (eval e X.env) = eval e X.env := by rfl) :
    PE X (.Attribute e n pos) (fun σ H Q => ∃ C, XfC X.K C ∧ PySem.W.findIn X.K (.ref C) n = some none ∧ tXf a cls d C n te σ H Q) :=
  ⟨fun pins s σ H Q I ⟨_, T, hno, h⟩ => (pe_xp (pos := pos) p T hno he hb).run pins s σ H Q I h⟩
/-- what is asked of the asked one's errors -/
def ECH (c : Cs) (Q : VK) : XK := fun cls d H' => ∃ (e : Er) (dd : Addr), cls = .ref (e.cls c) ∧ d = some dd ∧ H' dd = some (.xd e.flds) ∧ ∀ v H2, Same H' H2 → (∀ Mu, Wl Mu H' → Dat Mu H2 v e.d) → Q v H2
theorem sc__law_try : FnScope ["_law_ask", "_law_e"] ["_law_ask"] (defScope s__law_try) := ⟨rfl, rfl, rfl, by decide +kernel, rfl, by decide +kernel, by decide +kernel⟩
theorem er_code (e : Er) : e.flds.lookup ("code" : Str) = some (V.str e.code) := by cases e <;> rfl
/-- .. and of its answer -/
def KT (Q : VK) : VK := fun v H' => [V.str "", v].length ≤ sizeLine ∧ ∀ p, H' p = none → Q (.ref p) (upd H' p (.tup [.str "", v]))
theorem KT.of {Q : VK} {v : V} {H' : Hp} (h : ∀ p, H' p = none → Q (.ref p) (upd H' p (.tup [.str "", v]))) : KT Q v H' := ⟨by show 2 ≤ sizeLine; decide, h⟩
section
variable {X : Cx} {c : Cs} {k : Nat}
/-- _law_try(f): f was made -/
theorem run_try {pins : List (Addr × Obj)} {σ : L2.St} {H : Hp} {s : Shared} {Q : VK} {f g : Addr} {fd : FuncData} {L : LW} {ws : List (Option V)} {tb : XK → TE} (T : Txt X.w X.K X.mg c) (S : Sees X.K X.mg c) (F : FnP X.K "_law_try" "_law_try" s__law_try g fd) (hm : X.mg "_law_try" = some (.ref g)) (hr : Room (k + 2) X.A) (LO : L.Ok) (hbody : LamOk X.prog X.w X.K X.mg X.base k L tb)
    (I : Inv X pins σ H s) (LA : LamAt X H s f L ws) (h : tb (ECH c Q) (startF L.fr [] ws) H (KT Q)) :
    wpAny (model X.prog X.w) X.A (call (.ref g) [.ref f]) (EP X pins σ Q) X.xe s := by
  obtain ⟨cl, pm, c', ctv, hf, hfn, hfr, C, hco⟩ := LA.ex
  obtain ⟨fl, fdl, ml, kl, Fl, bl⟩ := ok__law_fields (P := X.prog) (base := X.base) T S
  have hb := F.bindsN (fun _ _ _ _ _ _ us hl => match us, hl with | [_], _ => rfl) (ps := ["_law_ask"])
  obtain ⟨oc, od, dV, kV, doc, pm2, an, cdv, ct, osl, rfl, lk, hcd, _, _⟩ := F.ex
  have rc : codeAny (model X.prog X.w) X.A (.call (.ref g) ⟨[.ref f], []⟩) (CR CX0 X.stack X.prog X.w H s Q E0) s := by
    refine LamX.run_ofS (CX := CX0) (N := ["_law_ask", "_law_e"]) (ps := ["_law_ask"]) (us := [.ref f]) (vs := [.ref f]) lk hcd sc__law_try hr I.env0 (hb s [.ref f] I.kIn rfl) (.cons rfl .nil) rfl fun hr' => ?_
    have room : RoomH 1 (X.A.deeper (envOfC "_law_try" (defScope s__law_try) s.heap.objs.size g cdv)) := ⟨(hr'.mono (Nat.le_add_left 1 k)).dp, (hr'.mono (Nat.le_add_left 1 k)).un⟩
    refine ⟨_, pss_one (ps_try_tup3 (X := cxOf CX0 X.prog X.w X.K X.mg X.base ["_law_ask", "_law_e"] "_law_try" (defScope s__law_try) g cdv X.A X.stack s H E0) (i := 1) (v1 := .ref c.GroundError) (v2 := .ref c.Missing) (v3 := .ref c.NothingLeft) (c1 := .ref c.GroundError) (c2 := .ref c.Missing) (c3 := .ref c.NothingLeft) (tb := fun W D σ H => ∃ E : XK, (∀ cls d σ' H', E cls d H' → W cls d σ' H') ∧ tRet (tTup (tCons (tC (.str "")) (tCons (fun σZ HZ Q => σZ[0]? = some (some (.ref f)) ∧ HZ c' = some (CodeO c' L.qual) ∧ tb E (startF L.fr [] ws) HZ Q) tNil))) D σ H) (ts := fun a cls d => tRet (tTup (tCons (fun σ H Q => ∃ C, XfC X.K C ∧ PySem.W.findIn X.K (.ref C) "code" = some none ∧ tXf a cls d C "code" (tVar 1) σ H Q) (tCons (fun σ H Q => tCons (tVar 1) tNil σ H fun vs H1 => spFields c a cls d vs H1 Q E0) tNil))))
      rfl rfl rfl sc__law_try.nd rfl rfl (fun a pn => pa_cons (pe_glob (v := .ref c.GroundError) rfl S.ground rfl) (pa_cons (pe_glob (v := .ref c.Missing) rfl S.missing rfl) (pa_cons (pe_glob (v := .ref c.NothingLeft) rfl S.nothing rfl) pa_nil))) (fun _ _ _ q => q) (fun u r => r) (fun u r => r) (fun u r => r) (fun W pn xe tk _ => ?_)
      (fun a oe cls d pn hz hd => ?_)), ?_⟩
    · refine ⟨fun pins s' σ' H' D J ⟨E, hW, q⟩ => ?_⟩
      exact (pss_one (ps_ret (pe_tup (pa_cons pe_str (pa_cons (pe_ask (i := 0) I LO hf hfn hfr C tk hW hr' hbody rfl (.inl rfl)) pa_nil))))).run pins s' σ' H' D J q
    · have px : PinX ((cxOf CX0 X.prog X.w X.K X.mg X.base ["_law_ask", "_law_e"] "_law_try" (defScope s__law_try) g cdv X.A X.stack s H E0).suite a ((a, oe) :: pn)) a cls d := let ⟨vs, e⟩ := hd; ⟨oe, vs, List.mem_cons_self, hz, e⟩
      exact pss_one (ps_ret (pe_tup (pa_cons (pe_xcode px (pv 1)) (pa_cons (pe_xcall Fl kl rfl ml room bl hz hd (pa_cons (pv 1) pa_nil)) pa_nil))))
    · refine ⟨ECH c Q, fun cls d σ' H' ⟨e, dd, ec, ed, hx, q⟩ => ?_, rfl, hco, h⟩
      subst ec ed
      have sn := S.of e
      refine ⟨sn.any, fun hl a H1 s1 na na1 => ?_⟩
      have l2 : 1 < σ'.length := by
        rw [hl]
        exact (by decide : 1 < 2)
      have sl : (σ'.set 1 (some (V.ref a)))[1]? = some (some (V.ref a)) := List.getElem?_set_self l2
      refine ⟨_, sn.xf, sn.code, _, sl, rfl, rfl, _, _, _, rfl, s1 _ _ hx, er_code e, _, sl, e, dd, rfl, rfl, rfl, s1 _ _ hx, fun v H2 s2 dv => ⟨by show 2 ≤ sizeLine; decide, fun p np => q _ _ ((s1.trans s2).trans (same_new np)) fun Mu wl => ?_⟩⟩
      rw [Er.d_eq]
      exact .tup (fun m => ((wl.same s1).same s2) p m np) upd_same (.cons (.str _) (.cons ((dv Mu (wl.same s1)).same (same_new np)) .nil))
  refine wpAny_call (codeAny_mono rc fun r s2 hq => ?_)
  cases r with
  | error e => exact hq.elim
  | ok fl =>
    cases fl with
    | ret u => exact I.after hq
    | next => exact hq.elim
    | brk => exact hq.elim
    | cont => exact hq.elim
end
end AG
namespace AG
open PySem PySem.Spec PyProof.Rows L2
open LamX (CodeO TabB LamS lamS_by)
open NdefX (CellsAt startF NScope nscope_by Caps cells_of slotAt)
/-! ### _law_try(e) -/
/-- an expression that makes a function without parameters -/
structure PEL (X : Cx) (e : Expr) {ι : Type} (L : ι → LW) (tl : L2.St → Hp → (ι → List (Option V) → Hp → Prop) → Prop) : Prop where
  run : ∀ (pins : List (Addr × Obj)) (s : Shared) (σ : L2.St) (H : Hp) (Q : ι → List (Option V) → Hp → Prop), Inv X pins σ H s → tl σ H Q →
    wpAny (model X.prog X.w) X.A (eval e X.env) (fun u s1 => ∃ i f ws H1, u = .ref f ∧ Inv X pins σ H1 s1 ∧ LamAt X H1 s1 f (L i) ws ∧ Q i ws H1) X.xe s
section
variable {X : Cx} {c : Cs} {k j : Nat} {ι : Type} {L : ι → LW} {tl : L2.St → Hp → (ι → List (Option V) → Hp → Prop) → Prop}
def tTry (c : Cs) (L : ι → LW) (tl : L2.St → Hp → (ι → List (Option V) → Hp → Prop) → Prop) (tb : ι → XK → TE) : TE := fun σ H Q => tl σ H fun i ws H1 => tb i (ECH c Q) (startF (L i).fr [] ws) H1 (KT Q)
theorem pe_try {e : Expr} {tb : ι → XK → TE} {p pos : Pos} (T : Txt X.w X.K X.mg c) (S : Sees X.K X.mg c) (hr : Room j X.A) (hk : k + 2 ≤ j) (LO : ∀ i, (L i).Ok) (hb : ∀ i, LamOk X.prog X.w X.K X.mg X.base k (L i) (tb i)) (he : PEL X e L tl) (hg : Gl X "_law_try" := by rfl)
    (hs : starEach [e] X.env = (false, eval e X.env) :: starEach [] X.env := by rfl) : PE X (.Call (.Name "_law_try" p) [e] [] pos) (tTry c L tl tb) := by
  obtain ⟨g, fd, hm, F⟩ := T.d__law_try.ex
  refine ⟨fun pins s σ H Q I h => ?_⟩
  refine wpAny_Call_Name_kw (ld_glob I hg hm ?_ (by decide +kernel))
  refine PySem.W.callWith_K (h₀ := X.base) I.ok.mod.kin F.kp ?_ hs (by rfl)
  rw [hs]
  show wpAny _ _ (spliced ((false, eval e X.env) :: backTo pos (starEach [] X.env))) _ _ s
  refine Calls.spliced_cons (thn (he.run pins s σ H _ I h) fun u s1 ⟨i, f, ws, H1, eu, I1, LA, q⟩ => ?_)
  subst eu
  refine Calls.spliced_nil ⟨I1.kIn, ?_⟩
  exact run_try T S F hm (hr.mono hk) (LO i) (hb i) I1 LA q
/-! ### a lambda of the running frame -/
def lamW (q : Str) (fr : List Str) : Expr → LW
  | .Lambda params body scope _ => ⟨q, params, body, scope, fr⟩
  | _ => ⟨q, ⟨[], [], none, [], [], none, []⟩, .Constant .none 0 ⟨0, 0, 0, 0⟩, default, fr⟩
def tOwn (q : Str) (P : Addr) (js : List Nat) : L2.St → Hp → (Unit → List (Option V) → Hp → Prop) → Prop := fun σ H Q => ∃ Mu, Wl Mu H ∧ TabO Mu H P q ∧ ∀ H1, Tb P H H1 → TabO Mu H1 P q → Q () (js.map (slotAt σ)) H1
theorem pel_own {cA P : Addr} {params : Arguments} {body : Expr} {scope : Scope} {pos : Pos} {fr : List Str} {js : List Nat} (TB : TabB X.base X.mg cA P) (hcode : X.env.code = .ref cA) (hdef : defaultsOf params X.env = ([], []))
    (hfree : ∀ y ∈ scope.names, y.2 = .free → X.env.scope.names.lookup y.1 = some .cell ∨ X.env.scope.names.lookup y.1 = some .free) (hfr : ∀ y ∈ fr, (y, NameKind.free) ∈ scope.names) (hjs : js.map (fun j => X.N[j]?) = fr.map some) :
    PEL X (.Lambda params body scope pos) (fun _ : Unit => ⟨X.env.qual ++ "<lambda>", params, body, scope, fr⟩) (tOwn (X.env.qual ++ "<lambda>") P js) := by
  refine ⟨fun pins s σ H Q I ⟨Mu, wl, hT, q⟩ => ?_⟩
  refine lam_make3 I TB hcode wl hT hdef (fun y hy e => (hfree y hy e).elim (fun z => I.ok.has _ (.inl z)) fun z => I.ok.has _ (.inr z)) fun f c' pm ctv H1 s1 I1 t1 hT1 hf hn hfs hco => ?_
  refine ⟨(), f, _, H1, rfl, I1, ⟨_, pm, c', ctv, hf, hn, hfs, cells_of I1 (Caps.made I1.ok hfree hfr hjs), hco⟩, q H1 t1 hT1⟩
end
/-! ### _law_applier(shelf, deeds) -/
def apE (i : Nat) : Expr := match (defBody s__law_applier).getD i (.Pass ⟨0, 0, 0, 0⟩) with
  | .If _ [.Return (some e) _] _ _ => e
  | .Return (some e) _ => e
  | _ => .Constant .none 0 ⟨0, 0, 0, 0⟩
abbrev apQ : Str := ("_law_applier" ++ ".<locals>." : Str) ++ "<lambda>"
def apFr (i : Nat) : List Str := if i = 0 then ["_law_shelf"] else ["_law_shelf", "_law_deeds"]
def apWs (i : Nat) (v : V) (ad : Addr) : List (Option V) := if i = 0 then [some v] else [some v, some (.ref ad)]
def apL (i : Nat) : LW := lamW apQ (apFr i) (apE i)
theorem sc__law_applier : FnScope ["_law_shelf", "_law_deeds"] ["_law_shelf", "_law_deeds"] (defScope s__law_applier) := ⟨rfl, rfl, rfl, by decide +kernel, rfl, by decide +kernel, by decide +kernel⟩
theorem ap_nd0 : NdefX.ndefB (defScope s__law_applier) (apL 0).scope (apFr 0) = true := by decide +kernel
theorem ap_nd1 : NdefX.ndefB (defScope s__law_applier) (apL 1).scope (apFr 1) = true := by decide +kernel
theorem ap_nd2 : NdefX.ndefB (defScope s__law_applier) (apL 2).scope (apFr 2) = true := by decide +kernel
theorem ap_nd3 : NdefX.ndefB (defScope s__law_applier) (apL 3).scope (apFr 3) = true := by decide +kernel
/-- one branch -/
theorem raw_if {X : Cx} {pins : List (Addr × Obj)} {σ : L2.St} {H : Hp} {s : Shared} {N : Flow → Shared → Prop} {c e : Expr} {tc : TT} {pos pos2 : Pos} {rest : List Stmt} (hc : PT X c tc) (I : Inv X pins σ H s)
    (h : tc σ H fun b H1 => ∀ s1, Inv X pins σ H1 s1 → if b = true then wpAny (model X.prog X.w) X.A (eval e X.env) (fun u s2 => N (.ret u) s2) X.xe s1 else wpAny (model X.prog X.w) X.A (execs rest X.env) N X.xe s1) :
    wpAny (model X.prog X.w) X.A (execs (.If c [.Return (some e) pos2] [] pos :: rest) X.env) N X.xe s := by
  refine wpAny_execs_cons (wpAny_If (thn (hc.run pins s σ H _ I h) fun d s1 ⟨H1, I1, q⟩ => ?_))
  have q := q s1 I1
  cases d with
  | true => exact wpAny_execs_cons (wpAny_Return_some (thn q fun u s2 z => z))
  | false => exact wpAny_execs_nil q
section
variable {X : Cx} {c : Cs} {k : Nat}
theorem run_applier {pins : List (Addr × Obj)} {σ : L2.St} {H : Hp} {s : Shared} {Q : Nat → List (Option V) → Hp → Prop} {g cA P ad : Addr} {fd : FuncData} {Mu : Mut1} {u : Value} {v : V} {ds : List V} (T : Txt X.w X.K X.mg c) (F : FnP X.K "_law_applier" "_law_applier" s__law_applier g fd) (hfd : fd.code = .ref cA) (TB : TabB X.base X.mg cA P) (hr : Room (k + 2) X.A)
    (I : Inv X pins σ H s) (rv : L2.RelV v u) (hl : H ad = some (.lst ds)) (hn : ds.length ≤ 3) (wl : Wl Mu H) (hT : TabO Mu H P apQ)
    (q : ∀ H1, Tb P H H1 → TabO Mu H1 P apQ → Q ds.length (apWs ds.length v ad) H1) :
    wpAny (model X.prog X.w) X.A (call (.ref g) [u, .ref ad]) (fun r s1 => ∃ i f ws H1, r = .ref f ∧ Inv X pins σ H1 s1 ∧ LamAt X H1 s1 f (apL i) ws ∧ Q i ws H1) X.xe s := by
  have hb := F.bindsN (fun _ _ _ _ _ _ us hl => match us, hl with | [_, _], _ => rfl) (ps := ["_law_shelf", "_law_deeds"])
  obtain ⟨oc, od, dV, kV, doc, pm, an, cdv, ct, osl, rfl, lk, hcd, _, _⟩ := F.ex
  have hfd : cdv = .ref cA := hfd
  subst hfd
  have kin : X.K.In s.heap := I.kIn
  have r2 : Vals [v, .ref ad] [u, .ref ad] := .cons rv (.cons rfl .nil)
  refine wpAny_call (codeAny_mono (R := fun r s1 => match r with
    | .error e => CR CX0 X.stack X.prog X.w H s (fun _ _ => True) E0 (.error e) s1
    | .ok fl => ∃ i f ws H1, fl = .ret (.ref f) ∧ CE X.stack X.prog X.w H s (fun v' H' => v' = .ref f ∧ H' = H1) (.ref f) s1 ∧ LamAt X H1 s1 f (apL i) ws ∧ Q i ws H1) ?_ fun r s1 hr2 => ?_)
  · refine codeAny_call_function hr.depth (kin _ _ lk) rfl sc__law_applier.co sc__law_applier.gen rfl (PySem.W.codeRec_of kin hcd) (hb s [u, .ref ad] kin rfl _ _ _ _ ?_)
    refine wpAny_newFunctionEnv_cells sc__law_applier.kind (fun ⟨n, v⟩ hy => ?_) fun env he s1 x => ?_
    · rcases sc__law_applier.par n (List.of_mem_zip hy).1 with q | q
      · exact .inl q
      · exact .inr ⟨q, PySem.W.cellsFrom_some _ _ _ (.inl q)⟩
    subst he
    refine ⟨I.nolimit.keeps x.toInCall.keep, codeAny_func ?_⟩
    have J := inv_start (CX := CX0) (E := E0) (f := g) (cd := .ref cA) sc__law_applier hr.hd I.env0 (show [v, V.ref ad].length = 2 from rfl) r2 x
    have fin : ∀ s2, Inv (cxOf CX0 X.prog X.w X.K X.mg X.base ["_law_shelf", "_law_deeds"] "_law_applier" (defScope s__law_applier) g (.ref cA) X.A X.stack s H E0) [] (L2.start ["_law_shelf", "_law_deeds"] [v, .ref ad]) H s2 →
        wpAny (model X.prog X.w) (cxOf CX0 X.prog X.w X.K X.mg X.base ["_law_shelf", "_law_deeds"] "_law_applier" (defScope s__law_applier) g (.ref cA) X.A X.stack s H E0).A (eval (apE ds.length) (cxOf CX0 X.prog X.w X.K X.mg X.base ["_law_shelf", "_law_deeds"] "_law_applier" (defScope s__law_applier) g (.ref cA) X.A X.stack s H E0).env) (fun u s3 => ∃ i f ws H1, Flow.ret u = .ret (.ref f) ∧ CE X.stack X.prog X.w H s (fun v' H' => v' = .ref f ∧ H' = H1) (.ref f) s3 ∧ LamAt X H1 s3 f (apL i) ws ∧ Q i ws H1) (cxOf CX0 X.prog X.w X.K X.mg X.base ["_law_shelf", "_law_deeds"] "_law_applier" (defScope s__law_applier) g (.ref cA) X.A X.stack s H E0).xe s2 := by
      intro s2 J2
      have go : ∀ i js, i = ds.length → js.map (slotAt (L2.start ["_law_shelf", "_law_deeds"] [v, .ref ad])) = apWs i v ad → PEL (cxOf CX0 X.prog X.w X.K X.mg X.base ["_law_shelf", "_law_deeds"] "_law_applier" (defScope s__law_applier) g (.ref cA) X.A X.stack s H E0) (apE i) (fun _ : Unit => apL i) (tOwn apQ P js) →
          wpAny (model X.prog X.w) (cxOf CX0 X.prog X.w X.K X.mg X.base ["_law_shelf", "_law_deeds"] "_law_applier" (defScope s__law_applier) g (.ref cA) X.A X.stack s H E0).A (eval (apE i) (cxOf CX0 X.prog X.w X.K X.mg X.base ["_law_shelf", "_law_deeds"] "_law_applier" (defScope s__law_applier) g (.ref cA) X.A X.stack s H E0).env) (fun u s3 => ∃ i f ws H1, Flow.ret u = .ret (.ref f) ∧ CE X.stack X.prog X.w H s (fun v' H' => v' = .ref f ∧ H' = H1) (.ref f) s3 ∧ LamAt X H1 s3 f (apL i) ws ∧ Q i ws H1) (cxOf CX0 X.prog X.w X.K X.mg X.base ["_law_shelf", "_law_deeds"] "_law_applier" (defScope s__law_applier) g (.ref cA) X.A X.stack s H E0).xe s2 := fun i js ei ej pl => by
        subst ei
        refine thn (pl.run [] s2 _ H (fun _ ws H1 => Q ds.length ws H1) J2 ⟨Mu, wl, hT, fun H1 t1 h1 => by rw [ej]; exact q H1 t1 h1⟩) fun u s3 ⟨_, f, ws, H1, eu, J3, LA, qq⟩ => ?_
        obtain ⟨cl, pm3, c', ctv, h1, h2, h3, h4, h5⟩ := LA.ex
        refine ⟨_, f, ws, H1, by rw [eu], ⟨.ref f, H1, J3.os, J3.bare, J3.base, J3.hok, rfl, rfl, rfl⟩, ⟨cl, pm3, c', ctv, h1, h2, fun z => h3 ?_, h4, h5⟩, qq⟩
        obtain ⟨y, hy, e⟩ := List.mem_filterMap.mp z
        exact List.mem_filterMap.mpr ⟨y, List.mem_cons_of_mem _ hy, e⟩
      have l4 : ds.length = 0 ∨ ds.length = 1 ∨ ds.length = 2 ∨ ds.length = 3 := by omega
      rcases l4 with e | e | e | e
      · rw [e]
        exact go 0 [0] e.symm rfl (pel_own (X := (cxOf CX0 X.prog X.w X.K X.mg X.base ["_law_shelf", "_law_deeds"] "_law_applier" (defScope s__law_applier) g (.ref cA) X.A X.stack s H E0)) (fr := apFr 0) TB rfl rfl (NdefX.ndef_free ap_nd0) (NdefX.ndef_fr ap_nd0) rfl)
      · rw [e]
        exact go 1 [0, 1] e.symm rfl (pel_own (X := (cxOf CX0 X.prog X.w X.K X.mg X.base ["_law_shelf", "_law_deeds"] "_law_applier" (defScope s__law_applier) g (.ref cA) X.A X.stack s H E0)) (fr := apFr 1) TB rfl rfl (NdefX.ndef_free ap_nd1) (NdefX.ndef_fr ap_nd1) rfl)
      · rw [e]
        exact go 2 [0, 1] e.symm rfl (pel_own (X := (cxOf CX0 X.prog X.w X.K X.mg X.base ["_law_shelf", "_law_deeds"] "_law_applier" (defScope s__law_applier) g (.ref cA) X.A X.stack s H E0)) (fr := apFr 2) TB rfl rfl (NdefX.ndef_free ap_nd2) (NdefX.ndef_fr ap_nd2) rfl)
      · rw [e]
        exact go 3 [0, 1] e.symm rfl (pel_own (X := (cxOf CX0 X.prog X.w X.K X.mg X.base ["_law_shelf", "_law_deeds"] "_law_applier" (defScope s__law_applier) g (.ref cA) X.A X.stack s H E0)) (fr := apFr 3) TB rfl rfl (NdefX.ndef_free ap_nd3) (NdefX.ndef_fr ap_nd3) rfl)
    refine wpAny_mono (Q := fun fl s2 => ∃ i f ws H1, fl = .ret (.ref f) ∧ CE X.stack X.prog X.w H s (fun v' H' => v' = .ref f ∧ H' = H1) (.ref f) s2 ∧ LamAt X H1 s2 f (apL i) ws ∧ Q i ws H1) ?_ (fun fl s2 ⟨i, f, ws, H1, ef, ce, LA, qq⟩ => by subst ef; exact ⟨i, f, ws, H1, rfl, ce, LA, qq⟩) fun e s2 hs => hs
    have ln : LenV X.K (.ref ad) H ds.length := .inl ⟨_, SqL.of hl, rfl⟩
    refine raw_if (X := (cxOf CX0 X.prog X.w X.K X.mg X.base ["_law_shelf", "_law_deeds"] "_law_applier" (defScope s__law_applier) g (.ref cA) X.A X.stack s H E0)) (pt_cmpR op_eqC (len1 T.n_len (pa_cons (pv 1) pa_nil)) pe_int (nomark _)) J ?_
    refine ⟨_, rfl, _, ln, rfl, fun z => ⟨_, rfl, fun s2 J2 => iteT ?_⟩, fun z0 => ⟨_, rfl, fun s2 J2 => iteF ?_⟩⟩
    · have e : ds.length = 0 := by
        have := V.int.inj z
        omega
      have f2 := fin s2 J2
      rw [e] at f2
      exact f2
    refine raw_if (X := (cxOf CX0 X.prog X.w X.K X.mg X.base ["_law_shelf", "_law_deeds"] "_law_applier" (defScope s__law_applier) g (.ref cA) X.A X.stack s H E0)) (pt_cmpR op_eqC (len1 T.n_len (pa_cons (pv 1) pa_nil)) pe_int (nomark _)) J2 ?_
    refine ⟨_, rfl, _, ln, rfl, fun z => ⟨_, rfl, fun s3 J3 => iteT ?_⟩, fun z1 => ⟨_, rfl, fun s3 J3 => iteF ?_⟩⟩
    · have e : ds.length = 1 := by
        have := V.int.inj z
        omega
      have f2 := fin s3 J3
      rw [e] at f2
      exact f2
    refine raw_if (X := (cxOf CX0 X.prog X.w X.K X.mg X.base ["_law_shelf", "_law_deeds"] "_law_applier" (defScope s__law_applier) g (.ref cA) X.A X.stack s H E0)) (pt_cmpR op_eqC (len1 T.n_len (pa_cons (pv 1) pa_nil)) pe_int (nomark _)) J3 ?_
    refine ⟨_, rfl, _, ln, rfl, fun z => ⟨_, rfl, fun s4 J4 => iteT ?_⟩, fun z2 => ⟨_, rfl, fun s4 J4 => iteF ?_⟩⟩
    · have e : ds.length = 2 := by
        have := V.int.inj z
        omega
      have f2 := fin s4 J4
      rw [e] at f2
      exact f2
    have e : ds.length = 3 := by
      have h0 : ds.length ≠ 0 := fun y => z0 (by rw [y]; rfl)
      have h1 : ds.length ≠ 1 := fun y => z1 (by rw [y]; rfl)
      have h2 : ds.length ≠ 2 := fun y => z2 (by rw [y]; rfl)
      omega
    have f2 := fin s4 J4
    rw [e] at f2
    exact wpAny_execs_cons (wpAny_Return_some (thn f2 fun u s5 z => z))
  · cases r with
    | error e => exact pass0 pins σ H s e s1 I hr2
    | ok fl =>
      obtain ⟨i, f, ws, H1, er, ce, LA, qq⟩ := hr2
      subst er
      obtain ⟨v', H', J, rv', ev, eH⟩ := I.after ce
      subst ev
      rw [eH] at J
      exact ⟨i, f, ws, H1, rfl, J, LA, qq⟩
end
end AG
namespace AG
open PySem PySem.Spec PyProof.Rows L2
open LamX (CodeO TabB)
open NdefX (CellsAt startF NScope nscope_by)
section
variable {X : Cx} {c : Cs} {k j : Nat}
/-- o.m() by a positional promise -/
theorem pe_methR0 {CX : CXT} {C f : Addr} {m : Str} {sp : Sp} {E : XK} {o : Expr} {ta : TE} {apos pos : Pos} {pl : Sem Bool} (he : PE X o ta) (cl : Cls X.K C) (hm : Meth X.K C m f) (F : FnR X.prog X.w X.K X.mg X.base CX k f sp) (hr : Room k X.A) (hx : Passes CX X E)
    (ht : eval (.Call (.Attribute o m apos) [] [] pos) X.env = (do
      let ov ← eval o X.env
      standAt apos.atName
      let (f, first) ← holding [ov] (getMethod ov m pl)
      callWith pos f first (backTo pos (starEach [] X.env)) (backToKw pos (keywordEach [] X.env))) := by rfl) : PE X (.Call (.Attribute o m apos) [] [] pos) (tMethR C m sp E ta tNil) := by
  refine ⟨fun pins s σ H Q I h => PySem.W.methodCall_KW (pl := pl) (thn (he.run pins s σ H _ I h) fun u s1 ⟨x, H1, I1, rx, a, dx, fs, ex, ea, l, q⟩ => ?_) ht⟩
  subst ex
  obtain rfl : u = Value.ref a := rx
  exact getmeth_ok I1 ea cl hm l (PySem.W.callWith_K0 (first := [.ref a]) I1.kIn hm.kp (wpAny_call (run_fnR (us := [.ref a]) (vs := [.ref a]) F hr hx I1 (.cons rfl .nil) q)))
theorem PE.by {e : Expr} {te te' : TE} (he : PE X e te) (h : ∀ σ H Q, te' σ H Q → te σ H Q) : PE X e te' := ⟨fun pins s σ H Q I q => he.run pins s σ H Q I (h σ H Q q)⟩
/-! ### _law_applier(a, b) as an argument -/
def tApp (P : Addr) (t : TA) : L2.St → Hp → (Fin 4 → List (Option V) → Hp → Prop) → Prop := fun σ H Q => t σ H fun vs H1 => ∃ v ad ds Mu, vs = [v, .ref ad] ∧ H1 ad = some (.lst ds) ∧ Wl Mu H1 ∧ TabO Mu H1 P apQ ∧ ∃ h : ds.length < 4, ∀ H2, Tb P H1 H2 → TabO Mu H2 P apQ → Q ⟨ds.length, h⟩ (apWs ds.length v ad) H2
theorem pel_app {cA P : Addr} {e1 e2 : Expr} {t : TA} {p pos : Pos} (T : Txt X.w X.K X.mg c) (hA : ∃ (g : Addr) (fd : FuncData), X.mg "_law_applier" = some (.ref g) ∧ FnP X.K "_law_applier" "_law_applier" s__law_applier g fd ∧ fd.code = .ref cA) (TB : TabB X.base X.mg cA P) (hr : Room j X.A) (hk : 2 ≤ j) (ha : PA X [e1, e2] t)
    (hg : Gl X "_law_applier" := by rfl) (he : starEach [e1, e2] X.env = (false, eval e1 X.env) :: starEach [e2] X.env := by rfl) (hpl : (backTo pos (starEach [e2] X.env)).any (·.1) = false := by rfl) :
    PEL X (.Call (.Name "_law_applier" p) [e1, e2] [] pos) (fun i : Fin 4 => apL i.val) (tApp P t) := by
  obtain ⟨g, fd, hm, F, hfd⟩ := hA
  refine ⟨fun pins s σ H Q I h => ?_⟩
  refine wpAny_Call_Name_kw (ld_glob I hg hm ?_ (by decide +kernel))
  refine PySem.W.callWith_K (h₀ := X.base) I.ok.mod.kin F.kp (thn (ha.run pos pins s σ H _ I h) fun us s1 ⟨vs, H1, I1, r, v, ad, ds, Mu, ev, hl, wl, hT, hn, q⟩ => ⟨I1.kIn, ?_⟩) he hpl
  subst ev
  obtain ⟨u, us, e1, rv, r⟩ : ∃ u r, us = u :: r ∧ L2.RelV v u ∧ Vals [V.ref ad] r := match r with | .cons a b => ⟨_, _, rfl, a, b⟩
  obtain ⟨u2, us, e2, rv2, r⟩ : ∃ u r, us = u :: r ∧ L2.RelV (V.ref ad) u ∧ Vals [] r := match r with | .cons a b => ⟨_, _, rfl, a, b⟩
  cases r
  obtain rfl : u2 = Value.ref ad := rv2
  rw [e1, e2]
  refine thn (run_applier (k := 0) (Q := fun i ws H1 => ∃ h : i < 4, Q ⟨i, h⟩ ws H1) T F hfd TB (hr.mono hk) I1 rv hl (Nat.le_of_lt_succ hn) wl hT fun H2 t2 h2 => ⟨hn, q H2 t2 h2⟩) fun r s2 ⟨i, f, ws, H2, er, I2, LA, hi, qq⟩ => ⟨⟨i, hi⟩, f, ws, H2, er, I2, LA, qq⟩
theorem ap_ok0 : (apL 0).Ok := ⟨nscope_by (by decide +kernel), fun _ _ _ _ => rfl⟩
theorem ap_ok1 : (apL 1).Ok := ⟨nscope_by (by decide +kernel), fun _ _ _ _ => rfl⟩
theorem ap_ok2 : (apL 2).Ok := ⟨nscope_by (by decide +kernel), fun _ _ _ _ => rfl⟩
theorem ap_ok3 : (apL 3).Ok := ⟨nscope_by (by decide +kernel), fun _ _ _ _ => rfl⟩
theorem ap_ok : ∀ i : Fin 4, (apL i.val).Ok
  | ⟨0, _⟩ => ap_ok0
  | ⟨1, _⟩ => ap_ok1
  | ⟨2, _⟩ => ap_ok2
  | ⟨3, _⟩ => ap_ok3
/-- the asked apply -/
def apT (c : Cs) (i : Nat) (E : XK) : TE := fun σ H Q => ∃ (S ad dx : Addr) (fs : List (Str × V)) (vs : List V), σ = startF (apFr i) [] (apWs i (.ref S) ad) ∧ H ad = some (.lst vs) ∧ vs.length = i ∧ H S = some (.ins c.Shelf dx fs) ∧ fs.lookup ("apply" : Str) = none ∧ spApply c (.ref S :: vs) H Q E
end
section
variable {P : Program} {w : World} {K : PySem.W.Frag} {mg : Str → Option Value} {base : Heap} {c : Cs}
theorem ap_lam0 (T : Txt w K mg c) (R : Exs P K mg c) : LamOk P w K mg base 9 (apL 0) (apT c 0) := by
  obtain ⟨cl, f, hm, F⟩ := ok_Shelf_apply (P := P) (base := base) T R
  intro cl2 c' f2 A outer s H E hr
  refine PE.by (pe_methR0 (pv 0) cl hm F hr (passes_call (takes_of rfl rfl rfl rfl) fun _ _ _ _ h => h)) fun σ H1 Q h => ?_
  obtain ⟨S, ad, dx, fs, vs, rfl, ha, hl, hS, lu, q⟩ := h
  obtain rfl := List.length_eq_zero_iff.mp hl
  exact ⟨_, rfl, S, dx, fs, rfl, hS, lu, q⟩
theorem ap_lam1 (T : Txt w K mg c) (R : Exs P K mg c) : LamOk P w K mg base 9 (apL 1) (apT c 1) := by
  obtain ⟨cl, f, hm, F⟩ := ok_Shelf_apply (P := P) (base := base) T R
  intro cl2 c' f2 A outer s H E hr
  refine PE.by (pe_methR (pv 0) cl hm F hr (passes_call (takes_of rfl rfl rfl rfl) fun _ _ _ _ h => h) (pa_cons (pe_ix ix_list (pv 1) pe_int (fun _ _ => rfl)) pa_nil)) fun σ H1 Q h => ?_
  obtain ⟨S, ad, dx, fs, vs, rfl, ha, hl, hS, lu, q⟩ := h
  obtain ⟨v0, rfl⟩ : ∃ v0, vs = [v0] := match vs, hl with | [v0], _ => ⟨_, rfl⟩
  refine ⟨_, rfl, S, dx, fs, rfl, hS, lu, ?_⟩
  refine ⟨_, rfl, ad, _, _, _, rfl, rfl, SqL.of ha, rfl, ?_⟩
  exact q
theorem ap_lam2 (T : Txt w K mg c) (R : Exs P K mg c) : LamOk P w K mg base 9 (apL 2) (apT c 2) := by
  obtain ⟨cl, f, hm, F⟩ := ok_Shelf_apply (P := P) (base := base) T R
  intro cl2 c' f2 A outer s H E hr
  refine PE.by (pe_methR (pv 0) cl hm F hr (passes_call (takes_of rfl rfl rfl rfl) fun _ _ _ _ h => h) (pa_cons (pe_ix ix_list (pv 1) pe_int (fun _ _ => rfl)) (pa_cons (pe_ix ix_list (pv 1) pe_int (fun _ _ => rfl)) pa_nil))) fun σ H1 Q h => ?_
  obtain ⟨S, ad, dx, fs, vs, rfl, ha, hl, hS, lu, q⟩ := h
  obtain ⟨v0, v1, rfl⟩ : ∃ v0 v1, vs = [v0, v1] := match vs, hl with | [v0, v1], _ => ⟨_, _, rfl⟩
  refine ⟨_, rfl, S, dx, fs, rfl, hS, lu, ?_⟩
  refine ⟨_, rfl, ad, _, _, _, rfl, rfl, SqL.of ha, rfl, ?_⟩
  refine ⟨_, rfl, ad, _, _, _, rfl, rfl, SqL.of ha, rfl, ?_⟩
  exact q
theorem ap_lam3 (T : Txt w K mg c) (R : Exs P K mg c) : LamOk P w K mg base 9 (apL 3) (apT c 3) := by
  obtain ⟨cl, f, hm, F⟩ := ok_Shelf_apply (P := P) (base := base) T R
  intro cl2 c' f2 A outer s H E hr
  refine PE.by (pe_methR (pv 0) cl hm F hr (passes_call (takes_of rfl rfl rfl rfl) fun _ _ _ _ h => h) (pa_cons (pe_ix ix_list (pv 1) pe_int (fun _ _ => rfl)) (pa_cons (pe_ix ix_list (pv 1) pe_int (fun _ _ => rfl)) (pa_cons (pe_ix ix_list (pv 1) pe_int (fun _ _ => rfl)) pa_nil)))) fun σ H1 Q h => ?_
  obtain ⟨S, ad, dx, fs, vs, rfl, ha, hl, hS, lu, q⟩ := h
  obtain ⟨v0, v1, v2, rfl⟩ : ∃ v0 v1 v2, vs = [v0, v1, v2] := match vs, hl with | [v0, v1, v2], _ => ⟨_, _, _, rfl⟩
  refine ⟨_, rfl, S, dx, fs, rfl, hS, lu, ?_⟩
  refine ⟨_, rfl, ad, _, _, _, rfl, rfl, SqL.of ha, rfl, ?_⟩
  refine ⟨_, rfl, ad, _, _, _, rfl, rfl, SqL.of ha, rfl, ?_⟩
  refine ⟨_, rfl, ad, _, _, _, rfl, rfl, SqL.of ha, rfl, ?_⟩
  exact q
theorem ap_lam (T : Txt w K mg c) (R : Exs P K mg c) : ∀ i : Fin 4, LamOk P w K mg base 9 (apL i.val) (apT c i.val)
  | ⟨0, _⟩ => ap_lam0 T R
  | ⟨1, _⟩ => ap_lam1 T R
  | ⟨2, _⟩ => ap_lam2 T R
  | ⟨3, _⟩ => ap_lam3 T R
end
end AG
namespace AG
open PySem PySem.Spec PyProof.Rows L2
open LamX (CodeO TabB codeO_ne)
open NdefX (CellsAt startF NScope nscope_by slotAt)
/-! ### xs != [] -/
def rNeNil : R2 := fun x y H Q => ∃ a b xs, x = .ref a ∧ y = .ref b ∧ H a = some (.lst xs) ∧ H b = some (.lst []) ∧ Q (.bl (!xs.isEmpty)) H
theorem op_neNil {X : Cx} (hu : X.A.units < cLine) : OpR X (compareOp .NotEq) rNeNil := by
  intro pins s σ H x y v u Q I rx ry h
  obtain ⟨a, b, xs, rfl, rfl, ha, hb, q⟩ := h
  cases rx
  cases ry
  obtain ⟨_, its, n, rv, ea⟩ := (show ObjOk X.prog X.w H s.heap a (.lst xs) from I.hok a _ ha)
  obtain ⟨_, its2, n2, rv2, eb⟩ := (show ObjOk X.prog X.w H s.heap b (.lst []) from I.hok b _ hb)
  cases rv2
  cases rv with
  | nil =>
    refine SeqAt.RcNeAt.lists (e := fun _ => true) (items := #[]) (items2 := #[]) ⟨_, ea, rfl, _, rfl⟩ ⟨_, eb, rfl, _, rfl⟩ rfl hu (fun j h1 => absurd h1 (Nat.not_lt_zero _)) _ _ _ _ ?_
    exact ⟨.bl false, H, I, rfl, q⟩
  | @cons x0 u0 xr ur r0 rr =>
    refine SeqAt.RcNeAt.lists_lengths ⟨_, ea, rfl, _, rfl⟩ ⟨_, eb, rfl, _, rfl⟩ (by simp) hu _ _ _ _ ?_
    exact ⟨.bl true, H, I, rfl, q⟩
/-! ### C(k = v) -/
section
variable {X : Cx} {CX : CXT} {k : Nat} {f C : Addr} {fd : FuncData} {ps ks : List Str} {sp : Sp} {E : XK} {x : Str} {p pos : Pos} {kws : List Keyword} {tk : TA} {g : List Value → List Value → List Value} {gV : List V → List V → List V}
theorem pe_makeN0 (M : Mk X.K C f) (F : FnOk X.prog X.w X.K X.mg X.base CX k f fd ps sp) (hr : Room (k + 1) X.A) (hg : Gl X x) (hm : X.mg x = some (.ref C)) (hb : KBn X.K fd ps (0 + 1) ks g gV) (hx : Passes CX X E) (hkw : PK X kws tk)
    (hall : (backToKw pos (keywordEach kws X.env)).all (·.1.isSome) = true := by rfl) (hks : (backToKw pos (keywordEach kws X.env)).filterMap (·.1) = ks := by rfl) (hdb : (x == ("__debug__" : Str)) = false := by decide)
    (hpl : ((backTo pos (starEach [] X.env)).any (·.1) || (backToKw pos (keywordEach kws X.env)).any (·.1.isNone)) = false := by rfl) : PE X (.Call (.Name x p) [] kws pos) (tMakeN C 0 ks.length sp gV E tNil tk) := by
  refine ⟨fun pins s σ H Q I h => wpAny_Call_Name_kw (ld_glob I hg hm ?_ hdb)⟩
  refine PySem.W.callWith_KW0 (h₀ := X.base) I.ok.mod.kin M.kp hall (thn (hkw.run pos pins s σ H _ I h) fun ws s2 ⟨zs, H2, I2, rz, l1, l2, q2⟩ => ⟨I2.kIn, ?_⟩) hpl
  rw [hks]
  exact run_makeN (us := []) (vs := []) M F hr hb hx I2 .nil rz l1 l2 q2
end
theorem PSs.by {X : Cx} {b : List Stmt} {t t' : TS} (h : PSs X b t) (f : ∀ D σ H, t' D σ H → t D σ H) : PSs X b t' := ⟨fun pins s σ H D I q => h.run pins s σ H D I (f D σ H q)⟩
/-! ### the law's state -/
abbrev lawQ : Str := ("law" ++ ".<locals>." : Str) ++ "<lambda>"
def TabL (Mu : Mut1) (H : Hp) (P : Addr) (q : Str) : Prop := ∃ ps : Array Value, H P = some (.tbl ps) ∧ TriplesOk ps.toList ∧ ∀ (pos : Pos) (cv : Value), codeAmong pos ps.toList = some cv → ∃ c, cv = .ref c ∧ ¬ Mu c ∧ H c = some (CodeO c q)
theorem TabL.to {Mu : Mut1} {H : Hp} {P : Addr} {q : Str} (h : TabL Mu H P q) : TabO (fun b => Mu b ∧ b ≠ P) H P q := by
  obtain ⟨ps, h1, h2, h3⟩ := h
  exact ⟨fun m => m.2 rfl, ps, h1, h2, fun pos cv e => let ⟨c, e1, m, e2⟩ := h3 pos cv e; ⟨c, e1, fun z => m z.1, e2⟩⟩
theorem TabL.of {Mu : Mut1} {H : Hp} {P : Addr} {q : Str} (h : TabO (fun b => Mu b ∧ b ≠ P) H P q) : TabL Mu H P q := by
  obtain ⟨_, ps, h1, h2, h3⟩ := h
  refine ⟨ps, h1, h2, fun pos cv e => ?_⟩
  obtain ⟨c, e1, m, e2⟩ := h3 pos cv e
  exact ⟨c, e1, fun z => m ⟨z, fun y => by
    rw [y, h1] at e2
    exact codeO_ne ps (Option.some.inj e2).symm⟩, e2⟩
theorem TabL.at_ {Mu Mv : Mut1} {H H' : Hp} {P : Addr} {q : Str} (h : TabL Mu H P q) (hP : H' P = H P) (t : Tr Mu H Mv H') : TabL Mv H' P q := by
  obtain ⟨ps, h1, h2, h3⟩ := h
  refine ⟨ps, hP.trans h1, h2, fun pos cv e => ?_⟩
  obtain ⟨c, e1, m, e2⟩ := h3 pos cv e
  exact ⟨c, e1, t.off m e2, t.kp.at_ _ _ m e2⟩
def LstD (Mu : Mut1) (H : Hp) (p : Addr) (ds : List PyData) : Prop := ∃ vs, H p = some (.lst vs) ∧ Dats Mu H vs ds
theorem LstD.at_ {Mu Mv : Mut1} {H H' : Hp} {p : Addr} {ds : List PyData} (h : LstD Mu H p ds) (hp : H' p = H p) (t : Tr Mu H Mv H') : LstD Mv H' p ds := let ⟨vs, h1, r⟩ := h; ⟨vs, hp.trans h1, r.tr t⟩
theorem LstD.some_ {Mu : Mut1} {H : Hp} {p : Addr} {ds : List PyData} (h : LstD Mu H p ds) : H p ≠ none := let ⟨vs, h1, _⟩ := h; fun z => by
  rw [h1] at z
  cases z
structure LInv (c : Cs) (PL PA B S na sa : Addr) (ns : List Str) (st : List Thing) (Mu Ch : Mut1) (vc : V) (pp pl : Addr) (sh ls : Sta) (H : Hp) : Prop where
  wl : Wl Mu H
  wc : Wl Ch H
  bag : Bag Mu H B
  nam : Wds Mu H na ns
  stk : Dat Mu H (.ref sa) (.list (st.map Thing.d))
  con : Dat Mu H vc (lawC ls.con)
  pas : LstD Mu H pp (ls.past.map lawC)
  lat : LstD Mu H pl (ls.fut.map lawC)
  shl : Shl c Mu H S 4 sh
  shm : ShM c H S Ch
  off : ∀ b, b = B ∨ b = pp ∨ b = pl ∨ b = PL ∨ b = PA → ¬ Ch b ∧ Mu b
  tL : TabL Mu H PL lawQ
  tA : TabL Mu H PA apQ
  n1 : pp ≠ pl
  n2 : B ≠ pp
  n3 : B ≠ pl
  n4 : PL ≠ PA
theorem Bag.some_ {Mu : Mut1} {H : Hp} {B : Addr} (b : Bag Mu H B) : H B ≠ none := by
  obtain ⟨m, L, cells, i, x, y, n, h1, _⟩ := b
  rw [h1]
  exact fun z => nomatch z
theorem Bag.at_ {Mu Mv : Mut1} {H H' : Hp} {B : Addr} (b : Bag Mu H B) (hB : H' B = H B) (t : Tr Mu H Mv H') : Bag Mv H' B := by
  obtain ⟨m, L, cells, i, x, y, n, h1, h2, h3, r⟩ := b
  exact ⟨t.up _ m, L, cells, i, x, y, n, hB.trans h1, t.off h2 h3, t.kp.at_ _ _ h2 h3, r⟩
theorem TabL.some_ {Mu : Mut1} {H : Hp} {P : Addr} {q : Str} (h : TabL Mu H P q) : H P ≠ none := let ⟨ps, h1, _⟩ := h; fun z => by
  rw [h1] at z
  cases z
theorem kp_x {x b : Addr} {H H' : Hp} (k : Kp (fun b => b = x) H H') (n : b ≠ x) (h : H b ≠ none) : H' b = H b := by
  cases e : H b with
  | none => exact absurd e h
  | some o => exact k.at_ b o n e
section
variable {c : Cs} {PL PA B S na sa : Addr} {ns : List Str} {st : List Thing} {Mu Ch : Mut1} {vc : V} {pp pl : Addr} {sh ls : Sta} {H : Hp}
theorem LInv.some_ (i : LInv c PL PA B S na sa ns st Mu Ch vc pp pl sh ls H) : ∀ b, b = B ∨ b = pp ∨ b = pl ∨ b = PL ∨ b = PA → H b ≠ none := fun b h => by
  rcases h with z | z | z | z | z <;> rw [z]
  · exact i.bag.some_
  · exact i.pas.some_
  · exact i.lat.some_
  · exact i.tL.some_
  · exact i.tA.some_
theorem tab_ne {b P : Addr} {q : Str} {vs : List V} (h : H b = some (.lst vs)) (t : TabL Mu H P q) : P ≠ b := fun z => by
  obtain ⟨ps, h1, _⟩ := t
  rw [z, h] at h1
  cases h1
theorem LInv.nt (i : LInv c PL PA B S na sa ns st Mu Ch vc pp pl sh ls H) : (PL ≠ B ∧ PL ≠ pp ∧ PL ≠ pl) ∧ (PA ≠ B ∧ PA ≠ pp ∧ PA ≠ pl) := by
  obtain ⟨m, L, cells, j, x, y, n, h1, _⟩ := i.bag
  obtain ⟨vp, h2, _⟩ := i.pas
  obtain ⟨vl, h3, _⟩ := i.lat
  exact ⟨⟨tab_ne h1 i.tL, tab_ne h2 i.tL, tab_ne h3 i.tL⟩, tab_ne h1 i.tA, tab_ne h2 i.tA, tab_ne h3 i.tA⟩
theorem shl_at {Mv : Mut1} {H' : Hp} (h : Shl c Mu H S 4 sh) (m : ShM c H S Ch) (t : Tr Mu H Mv H') (k : ∀ b o, Ch b → H b = some o → H' b = some o) : Shl c Mv H' S 4 sh ∧ ShM c H' S Ch := by
  obtain ⟨dx, d, p, f2, h2, ps, fs, hS, mS, mp, mf, ne, hp, hf, hh, mh, hc, hP, hF⟩ := h
  obtain ⟨_, _, p1, f1, _, _, _, h1, cS, cp, cf⟩ := m
  obtain ⟨e1, e2⟩ := hS.inj h1
  subst e1 e2
  have hS' : ShlF c H' S dx d p1 f1 h2 false 4 := k _ _ cS hS
  exact ⟨⟨dx, d, p1, f1, h2, ps, fs, hS', t.up _ mS, t.up _ mp, t.up _ mf, ne, k _ _ cp hp, k _ _ cf hf, t.kp.at_ _ _ mh hh, t.off mh hh, hc.tr t, hP.tr t, hF.tr t⟩, _, _, _, _, _, _, _, hS', cS, cp, cf⟩
/-- one of the places that change, changes -/
theorem LInv.mv {H' : Hp} {x : Addr} {vc' : V} {ls' : Sta} (i : LInv c PL PA B S na sa ns st Mu Ch vc pp pl sh ls H) (k : Kp (fun b => b = x) H H') (hx : x = B ∨ x = pp ∨ x = pl ∨ x = PL ∨ x = PA) (bag : Bag Mu H' B) (con : Dat Mu H vc' (lawC ls'.con)) (pas : LstD Mu H' pp (ls'.past.map lawC)) (lat : LstD Mu H' pl (ls'.fut.map lawC)) (tL : TabL Mu H' PL lawQ) (tA : TabL Mu H' PA apQ) :
    LInv c PL PA B S na sa ns st Mu Ch vc' pp pl sh ls' H' := by
  obtain ⟨nx, mx⟩ := i.off x hx
  have kM : Kp Mu H H' := k.wide fun b e => e ▸ mx
  have t : Tr Mu H Mu H' := .ofKp i.wl kM
  obtain ⟨s1, s2⟩ := shl_at i.shl i.shm t fun b o m h => k.at_ b o (fun z => nx (z ▸ m)) h
  exact ⟨i.wl.kp kM, fun b m z => i.wc b m (k.fresh z), bag, i.nam.keep kM, i.stk.tr t, con.tr t, pas, lat, s1, s2, i.off, tL, tA, i.n1, i.n2, i.n3, i.n4⟩
/-- something was drawn -/
theorem LInv.drawn {H' : Hp} (i : LInv c PL PA B S na sa ns st Mu Ch vc pp pl sh ls H) (k : Kp (fun b => b = B) H H') (bag : Bag Mu H' B) : LInv c PL PA B S na sa ns st Mu Ch vc pp pl sh ls H' := by
  have t : Tr Mu H Mu H' := .ofKp i.wl (k.wide fun b e => e ▸ (i.off B (.inl rfl)).2)
  exact i.mv k (.inl rfl) bag i.con (i.pas.at_ (kp_x k (Ne.symm i.n2) i.pas.some_) t) (i.lat.at_ (kp_x k (Ne.symm i.n3) i.lat.some_) t) (i.tL.at_ (kp_x k i.nt.1.1 i.tL.some_) t) (i.tA.at_ (kp_x k i.nt.2.1 i.tA.some_) t)
/-- a lambda of the law was made -/
theorem LInv.lamL {H' : Hp} (i : LInv c PL PA B S na sa ns st Mu Ch vc pp pl sh ls H) (b : Tb PL H H') (tL : TabL Mu H' PL lawQ) : LInv c PL PA B S na sa ns st Mu Ch vc pp pl sh ls H' := by
  have k := b.kp
  have t : Tr Mu H Mu H' := .ofKp i.wl (k.wide fun b e => e ▸ (i.off PL (.inr (.inr (.inr (.inl rfl))))).2)
  exact i.mv k (.inr (.inr (.inr (.inl rfl)))) (i.bag.at_ (kp_x k (Ne.symm i.nt.1.1) i.bag.some_) t) i.con (i.pas.at_ (kp_x k (Ne.symm i.nt.1.2.1) i.pas.some_) t) (i.lat.at_ (kp_x k (Ne.symm i.nt.1.2.2) i.lat.some_) t) tL (i.tA.at_ (kp_x k (Ne.symm i.n4) i.tA.some_) t)
/-- one of the applier -/
theorem LInv.lamA {H' : Hp} (i : LInv c PL PA B S na sa ns st Mu Ch vc pp pl sh ls H) (b : Tb PA H H') (tA : TabL Mu H' PA apQ) : LInv c PL PA B S na sa ns st Mu Ch vc pp pl sh ls H' := by
  have k := b.kp
  have t : Tr Mu H Mu H' := .ofKp i.wl (k.wide fun b e => e ▸ (i.off PA (.inr (.inr (.inr (.inr rfl))))).2)
  exact i.mv k (.inr (.inr (.inr (.inr rfl)))) (i.bag.at_ (kp_x k (Ne.symm i.nt.2.1) i.bag.some_) t) i.con (i.pas.at_ (kp_x k (Ne.symm i.nt.2.2.1) i.pas.some_) t) (i.lat.at_ (kp_x k (Ne.symm i.nt.2.2.2) i.lat.some_) t) (i.tL.at_ (kp_x k i.n4 i.tL.some_) t) tA
/-- something more is there -/
theorem LInv.same {H' : Hp} (i : LInv c PL PA B S na sa ns st Mu Ch vc pp pl sh ls H) (s : Same H H') : LInv c PL PA B S na sa ns st Mu Ch vc pp pl sh ls H' := by
  have t : Tr Mu H Mu H' := .ofSame i.wl s
  obtain ⟨s1, s2⟩ := shl_at i.shl i.shm t fun b o _ h => s b o h
  exact ⟨i.wl.same s, fun b m z => i.wc b m (Classical.byContradiction fun y => by
    cases e : H b with
    | none => exact y e
    | some o =>
      rw [s b o e] at z
      cases z), i.bag.at_ (same_at s i.bag.some_) t, i.nam.keep (.ofSame s), i.stk.tr t, i.con.tr t, i.pas.at_ (same_at s i.pas.some_) t, i.lat.at_ (same_at s i.lat.some_) t, s1, s2, i.off, i.tL.at_ (same_at s i.tL.some_) t, i.tA.at_ (same_at s i.tA.some_) t, i.n1, i.n2, i.n3, i.n4⟩
/-- the shelf was asked -/
theorem LInv.asked {Mv : Mut1} {H' : Hp} {sh' : Sta} (i : LInv c PL PA B S na sa ns st Mu Ch vc pp pl sh ls H) (t : Tr Mu H Mv H') (m : Mov c S H H') (h : Shl c Mv H' S 4 sh') : ∃ Cv, LInv c PL PA B S na sa ns st Mv Cv vc pp pl sh' ls H' := by
  obtain ⟨Cv, tc, sm⟩ := m Ch i.wc i.shm
  have fix : ∀ b, b = B ∨ b = pp ∨ b = pl ∨ b = PL ∨ b = PA → H' b = H b := fun b hb => by
    cases e : H b with
    | none => exact absurd e (i.some_ b hb)
    | some o => exact tc.kp.at_ b o (i.off b hb).1 e
  refine ⟨Cv, t.wl, tc.wl, i.bag.at_ (fix _ (.inl rfl)) t, (i.nam.grow t.new).keep (t.kp.wide t.up), i.stk.tr t, i.con.tr t, i.pas.at_ (fix _ (.inr (.inl rfl))) t, i.lat.at_ (fix _ (.inr (.inr (.inl rfl)))) t, h, sm, fun b hb => ?_, i.tL.at_ (fix _ (.inr (.inr (.inr (.inl rfl))))) t, i.tA.at_ (fix _ (.inr (.inr (.inr (.inr rfl))))) t, i.n1, i.n2, i.n3, i.n4⟩
  refine ⟨fun z => ?_, t.up b (i.off b hb).2⟩
  rcases tc.new b z with y | y
  · exact (i.off b hb).1 y
  · exact i.some_ b hb y
/-- one more place may change: it is new -/
theorem LInv.more {H' : Hp} {p : Addr} (i : LInv c PL PA B S na sa ns st Mu Ch vc pp pl sh ls H) (s : Same H H') (n : H p = none) (h : H' p ≠ none) : LInv c PL PA B S na sa ns st (wi Mu p) Ch vc pp pl sh ls H' ∧ (¬ Ch p ∧ wi Mu p p) ∧ p ≠ pp ∧ p ≠ pl ∧ B ≠ p := by
  have t : Tr Mu H (wi Mu p) H' := .add i.wl (.ofSame s) n h
  have j := i.same s
  obtain ⟨s1, s2⟩ := shl_at i.shl i.shm t fun b o _ h => s b o h
  have ne : ∀ b, (b = B ∨ b = pp ∨ b = pl ∨ b = PL ∨ b = PA) → b ≠ p := fun b hb z => i.some_ b hb (z ▸ n)
  exact ⟨⟨t.wl, j.wc, i.bag.at_ (same_at s i.bag.some_) t, (i.nam.grow t.new).keep (t.kp.wide t.up), i.stk.tr t, i.con.tr t, i.pas.at_ (same_at s i.pas.some_) t, i.lat.at_ (same_at s i.lat.some_) t, s1, s2, fun b hb => ⟨(i.off b hb).1, .inl (i.off b hb).2⟩, i.tL.at_ (same_at s i.tL.some_) t, i.tA.at_ (same_at s i.tA.some_) t, i.n1, i.n2, i.n3, i.n4⟩,
    ⟨fun z => i.wc p z n, .inr rfl⟩, Ne.symm (ne pp (.inr (.inl rfl))), Ne.symm (ne pl (.inr (.inr (.inl rfl)))), ne B (.inl rfl)⟩
/-- other names for the law's own state -/
theorem LInv.rebind {vc' : V} {pp' pl' : Addr} {ls' : Sta} (i : LInv c PL PA B S na sa ns st Mu Ch vc pp pl sh ls H) (con : Dat Mu H vc' (lawC ls'.con)) (pas : LstD Mu H pp' (ls'.past.map lawC)) (lat : LstD Mu H pl' (ls'.fut.map lawC)) (op : ¬ Ch pp' ∧ Mu pp') (ol : ¬ Ch pl' ∧ Mu pl') (n1 : pp' ≠ pl') (n2 : B ≠ pp') (n3 : B ≠ pl') :
    LInv c PL PA B S na sa ns st Mu Ch vc' pp' pl' sh ls' H :=
  ⟨i.wl, i.wc, i.bag, i.nam, i.stk, con, pas, lat, i.shl, i.shm, fun b hb => by
    rcases hb with z | z | z | z | z
    · exact i.off b (.inl z)
    · rw [z]
      exact op
    · rw [z]
      exact ol
    · exact i.off b (.inr (.inr (.inr (.inl z))))
    · exact i.off b (.inr (.inr (.inr (.inr z)))), i.tL, i.tA, n1, n2, n3, i.n4⟩
theorem dats_last {Mu : Mut1} {H : Hp} {vs : List V} {ds : List PyData} {d : PyData} (h : Dats Mu H vs (ds ++ [d])) : ∃ ws v, vs = ws ++ [v] ∧ Dats Mu H ws ds ∧ Dat Mu H v d := by
  induction ds generalizing vs with
  | nil =>
    cases h with
    | cons a t =>
      cases t
      exact ⟨[], _, rfl, .nil, a⟩
  | cons e r ih =>
    cases h with
    | cons a t =>
      obtain ⟨ws, v, ev, h1, h2⟩ := ih t
      exact ⟨_ :: ws, v, by rw [ev]; rfl, .cons a h1, h2⟩
theorem LInv.popP {l : List (List Ent)} {es : List Ent} (i : LInv c PL PA B S na sa ns st Mu Ch vc pp pl sh ls H) (e : ls.past = l ++ [es]) : ∃ vs v, H pp = some (.lst (vs ++ [v])) ∧ LInv c PL PA B S na sa ns st Mu Ch v pp pl sh ⟨es, l, ls.fut⟩ (upd H pp (.lst vs)) := by
  obtain ⟨ws, hp, r⟩ := i.pas
  rw [e, List.map_append] at r
  obtain ⟨vs, v, rfl, r1, r2⟩ := dats_last r
  have k : Kp (fun b => b = pp) H (upd H pp (.lst vs)) := kp_at
  have t : Tr Mu H Mu (upd H pp (.lst vs)) := .ofKp i.wl (k.wide fun b e => e ▸ (i.off pp (.inr (.inl rfl))).2)
  exact ⟨vs, v, hp, i.mv k (.inr (.inl rfl)) (i.bag.at_ (kp_x k i.n2 i.bag.some_) t) r2 ⟨vs, upd_same, r1.tr t⟩ (i.lat.at_ (kp_x k (Ne.symm i.n1) i.lat.some_) t) (i.tL.at_ (kp_x k i.nt.1.2.1 i.tL.some_) t) (i.tA.at_ (kp_x k i.nt.2.2.1 i.tA.some_) t)⟩
theorem LInv.popF {l : List (List Ent)} {es : List Ent} (i : LInv c PL PA B S na sa ns st Mu Ch vc pp pl sh ls H) (e : ls.fut = l ++ [es]) : ∃ vs v, H pl = some (.lst (vs ++ [v])) ∧ LInv c PL PA B S na sa ns st Mu Ch v pp pl sh ⟨es, ls.past, l⟩ (upd H pl (.lst vs)) := by
  obtain ⟨ws, hp, r⟩ := i.lat
  rw [e, List.map_append] at r
  obtain ⟨vs, v, rfl, r1, r2⟩ := dats_last r
  have k : Kp (fun b => b = pl) H (upd H pl (.lst vs)) := kp_at
  have t : Tr Mu H Mu (upd H pl (.lst vs)) := .ofKp i.wl (k.wide fun b e => e ▸ (i.off pl (.inr (.inr (.inl rfl)))).2)
  exact ⟨vs, v, hp, i.mv k (.inr (.inr (.inl rfl))) (i.bag.at_ (kp_x k i.n3 i.bag.some_) t) r2 (i.pas.at_ (kp_x k i.n1 i.pas.some_) t) ⟨vs, upd_same, r1.tr t⟩ (i.tL.at_ (kp_x k i.nt.1.2.2 i.tL.some_) t) (i.tA.at_ (kp_x k i.nt.2.2.2 i.tA.some_) t)⟩
end
end AG
namespace AG
open PySem PySem.Spec PyProof.Rows L2
open LamX (CodeO TabB codeO_ne)
open NdefX (CellsAt startF NScope nscope_by slotAt)
/-! ### the code of law -/
abbrev lawN : List Str := ["_law_script_z", "_law_bag_here", "_law_names_here", "_law_words", "_law_stock", "_law_content", "_law_past", "_law_late", "_law_shelf", "_law_turn", "_law_way", "_law_due_here", "_law_found", "_law_k", "_law_deeds", "_law_now", "_law_deed_here"]
theorem sc_law : FnScope lawN ["_law_script_z"] (defScope s_law) := ⟨rfl, rfl, rfl, by decide +kernel, rfl, by decide +kernel, by decide +kernel⟩
def forBody : Stmt → List Stmt
  | .For _ _ b _ _ => b
  | _ => []
def ifThen : Stmt → List Stmt
  | .If _ a _ _ => a
  | _ => []
def ifElse : Stmt → List Stmt
  | .If _ _ b _ => b
  | _ => []
def stAt (b : List Stmt) (i : Nat) : Stmt := b.getD i (.Pass ⟨0, 0, 0, 0⟩)
def lawFor : List Stmt := forBody (stAt (defBody s_law) 4)
def lawU : List Stmt := ifThen (stAt lawFor 1)
def lawR : List Stmt := ifThen (stAt (ifElse (stAt lawFor 1)) 0)
def lawA : List Stmt := ifElse (stAt (ifElse (stAt lawFor 1)) 0)
/-! ### a step is asked -/
def stT (c : Cs) (m : Str) (G : Sta → Option Sta) (E : XK) : TE := fun σ H Q => ∃ (S dx : Addr) (fs : List (Str × V)), σ = startF ["_law_shelf"] [] [some (.ref S)] ∧ H S = some (.ins c.Shelf dx fs) ∧ fs.lookup m = none ∧ spStep c G [.ref S] H Q E
def lamIn (b : List Stmt) : Expr := match stAt b 0 with
  | .Assign _ (.Tuple [_, .Call _ [e] _ _] _ _) _ => e
  | _ => .Constant .none 0 ⟨0, 0, 0, 0⟩
def lamU : LW := lamW lawQ ["_law_shelf"] (lamIn lawU)
def lamR : LW := lamW lawQ ["_law_shelf"] (lamIn lawR)
theorem lamU_ok : lamU.Ok := ⟨nscope_by (by decide +kernel), fun _ _ _ _ => rfl⟩
theorem lamR_ok : lamR.Ok := ⟨nscope_by (by decide +kernel), fun _ _ _ _ => rfl⟩
theorem lamU_nd : NdefX.ndefB (defScope s_law) lamU.scope ["_law_shelf"] = true := by decide +kernel
theorem lamR_nd : NdefX.ndefB (defScope s_law) lamR.scope ["_law_shelf"] = true := by decide +kernel
section
variable {P : Program} {w : World} {K : PySem.W.Frag} {mg : Str → Option Value} {base : Heap} {c : Cs}
theorem undo_lam (T : Txt w K mg c) (R : Exs P K mg c) : LamOk P w K mg base 3 lamU (stT c "undo" undone) := by
  intro cl c' f A outer s H E hr
  refine PE.by (mcall0 (ok_Shelf_undo T R) hr (by decide) (passes_call (takes_of rfl rfl rfl rfl) fun _ _ _ _ h => h) (pv 0)) fun σ H1 Q h => ?_
  obtain ⟨S, dx, fs, rfl, hS, lu, q⟩ := h
  exact ⟨_, rfl, S, dx, fs, rfl, hS, lu, q⟩
theorem redo_lam (T : Txt w K mg c) (R : Exs P K mg c) : LamOk P w K mg base 3 lamR (stT c "redo" redone) := by
  intro cl c' f A outer s H E hr
  refine PE.by (mcall0 (ok_Shelf_redo T R) hr (by decide) (passes_call (takes_of rfl rfl rfl rfl) fun _ _ _ _ h => h) (pv 0)) fun σ H1 Q h => ?_
  obtain ⟨S, dx, fs, rfl, hS, lu, q⟩ := h
  exact ⟨_, rfl, S, dx, fs, rfl, hS, lu, q⟩
end
/-- the shelf's state behind it -/
def behindG (G : Sta → Option Sta) (s : Sta) : Sta := match G s with
  | none => s
  | some t => t
section
variable {c : Cs} {PL PA B S na sa : Addr} {ns : List Str} {st : List Thing} {Mu Ch : Mut1} {vc : V} {pp pl : Addr} {sh ls : Sta} {H : Hp}
theorem shl_ins (h : Shl c Mu H S 4 sh) : ∃ dx d p f x, H S = some (.ins c.Shelf dx [("content", .ref d), ("past", .ref p), ("future", .ref f), ("held", .ref x), ("working", .bl false), ("reckoned", .int 0), ("own_limit", .int ((4 : Nat) : Int))]) := by
  obtain ⟨dx, d, p, f, x, ps, fs, hS, _⟩ := h
  exact ⟨dx, d, p, f, x, hS⟩
theorem ask_step {m : Str} {G : Sta → Option Sta} {L : LW} {σ : L2.St} {Q : VK} (hL : L.fr = (["_law_shelf"] : List Str)) (hm : ∀ (d p f x : Addr) (n : Int), List.lookup m [("content", V.ref d), ("past", .ref p), ("future", .ref f), ("held", .ref x), ("working", .bl false), ("reckoned", .int 0), ("own_limit", .int n)] = none)
    (i : LInv c PL PA B S na sa ns st Mu Ch vc pp pl sh ls H) (hσ : slotAt σ 8 = some (.ref S)) (l1 : sh.past.length ≤ 1000) (l2 : sh.fut.length ≤ 1000)
    (q : ∀ Mv Cv v H', Tr Mu H Mv H' → LInv c PL PA B S na sa ns st Mv Cv vc pp pl (behindG G sh) ls H' → Dat Mv H' v (dueD (orNothing (G sh))) → Q v H') :
    tTry c (fun _ : Unit => L) (tOwn lawQ PL [8]) (fun _ => stT c m G) σ H Q := by
  refine ⟨fun b => Mu b ∧ b ≠ PL, fun b m => i.wl b m.1, i.tL.to, fun H1 t1 h1 => ?_⟩
  have i1 := i.lamL t1 (.of h1)
  have tr1 : Tr Mu H Mu H1 := .ofKp i.wl (t1.kp.wide fun b e => e ▸ (i.off PL (.inr (.inr (.inr (.inl rfl))))).2)
  obtain ⟨dx, d, p, f, x, hS⟩ := shl_ins i1.shl
  refine ⟨S, dx, _, ?_, hS, hm _ _ _ _ _, Mu, S, 4, sh, rfl, i1.wl, i1.shl, l1, l2, ?_⟩
  · rw [hL]
    show startF [("_law_shelf" : Str)] [] [slotAt σ 8] = _
    rw [hσ]
  · unfold behindG at q
    cases hG : G sh with
    | none =>
      rw [hG] at q
      intro dd H2 t2 mv sh2 hx
      obtain ⟨Cv, i2⟩ := i1.asked t2 mv sh2
      refine ⟨.nothing, dd, rfl, rfl, hx, fun v H3 s3 dv => ?_⟩
      exact q Mu Cv v H3 ((tr1.trans t2).trans (.ofSame t2.wl s3)) (i2.same s3) (dv Mu t2.wl)
    | some sh' =>
      rw [hG] at q
      intro Mv H2 t2 mv sh2
      obtain ⟨Cv, i2⟩ := i1.asked t2 mv sh2
      exact KT.of fun p9 n9 => q Mv Cv _ _ ((tr1.trans t2).trans (.ofSame t2.wl (same_new n9))) (i2.same (same_new n9)) (.tup (fun m => t2.wl p9 m n9) upd_same (.cons (.str _) (.cons .non .nil)))
end
/-! ### what holds at the turns -/
structure Fits (ls : Sta) : Prop where
  con : Fit 4 ls.con
  pas : ∀ es ∈ ls.past, Fit 4 es
  fut : ∀ es ∈ ls.fut, Fit 4 es
abbrev LSt (B na sa S : Addr) (vc : V) (pp pl : Addr) (x0 x3 x9 x10 x11 x12 x13 x14 x15 x16 : Option V) : L2.St := [x0, some (.ref B), some (.ref na), x3, some (.ref sa), some vc, some (.ref pp), some (.ref pl), some (.ref S), x9, x10, x11, x12, x13, x14, x15, x16]
def LAt (c : Cs) (PL PA B S na sa : Addr) (ns : List Str) (st : List Thing) (n : Nat) (σ : L2.St) (H : Hp) : Prop := ∃ Mu Ch vc pp pl ls x0 x3 x9 x10 x11 x12 x13 x14 x15 x16, σ = LSt B na sa S vc pp pl x0 x3 x9 x10 x11 x12 x13 x14 x15 x16 ∧ LInv c PL PA B S na sa ns st Mu Ch vc pp pl ls ls H ∧ Fits ls ∧ ls.past.length + ls.fut.length ≤ n
def LEnd (c : Cs) (PL PA B S na sa : Addr) (ns : List Str) (st : List Thing) (n : Nat) (σ : L2.St) (H : Hp) : Prop := ∃ Mu Ch vc pp pl ls vd vf, ∃ r : Er ⊕ Unit, ∃ x0 x3 x9 x10 x13 x14 x15 x16, σ = LSt B na sa S vc pp pl x0 x3 x9 x10 (some vd) (some vf) x13 x14 x15 x16 ∧ LInv c PL PA B S na sa ns st Mu Ch vc pp pl ls ls H ∧ Fits ls ∧ ls.past.length + ls.fut.length ≤ n ∧ Dat Mu H vd (dueD r) ∧ Dat Mu H vf (dueD r)
def tBr (c : Cs) (PL PA B S na sa : Addr) (ns : List Str) (st : List Thing) (n : Nat) : TS := fun D σ H => n ≤ 500 ∧ LAt c PL PA B S na sa ns st n σ H ∧ ∀ σ' H', LEnd c PL PA B S na sa ns st (n + 1) σ' H' → D.nx σ' H'
/-- the tables of the lambdas' code -/
structure Tbs (K : PySem.W.Frag) (mg : Str → Option Value) (base : Heap) (cL PL cA PA : Addr) : Prop where
  tL : TabB base mg cL PL
  tA : TabB base mg cA PA
  app : ∃ (g : Addr) (fd : FuncData), mg "_law_applier" = some (.ref g) ∧ FnP K "_law_applier" "_law_applier" s__law_applier g fd ∧ fd.code = .ref cA
theorem undone_last {ls : Sta} {l : List (List Ent)} {es : List Ent} (e : ls.past = l ++ [es]) : undone ls = some ⟨es, l, ls.fut ++ [ls.con]⟩ := by
  unfold undone
  rw [e, List.getLast?_concat, List.dropLast_concat]
theorem redone_last {ls : Sta} {l : List (List Ent)} {es : List Ent} (e : ls.fut = l ++ [es]) : redone ls = some ⟨es, ls.past ++ [ls.con], l⟩ := by
  unfold redone
  rw [e, List.getLast?_concat, List.dropLast_concat]
section
variable {P : Program} {w : World} {K : PySem.W.Frag} {mg : Str → Option Value} {base : Heap} {c : Cs} {k : Nat} {f : Addr} {A : Around} {outer : List Env} {s : Shared} {H0 : Hp} {E : XK} {cL PL cA PA B S na sa : Addr} {ns : List Str} {st : List Thing} {n : Nat}
abbrev lawX (P : Program) (w : World) (K : PySem.W.Frag) (mg : Str → Option Value) (base : Heap) (f cL : Addr) (A : Around) (outer : List Env) (s : Shared) (H0 : Hp) (E : XK) : Cx := cxOf CX0 P w K mg base lawN "law" (defScope s_law) f (.ref cL) A outer s H0 E
theorem br_undo (T : Txt w K mg c) (SE : Sees K mg c) (R : Exs P K mg c) (Z : Tbs K mg base cL PL cA PA) (hr : Room k (lawX P w K mg base f cL A outer s H0 E).A) (hk : 5 ≤ k) : PSs (lawX P w K mg base f cL A outer s H0 E) lawU (tBr c PL PA B S na sa ns st n) := by
  have hu : (lawX P w K mg base f cL A outer s H0 E).A.units < cLine := hr.units0
  refine PSs.by (pss_cons (ps_par (i := 11) (j := 12) rfl sc_law.nd rfl rfl (by decide) rfl rfl (pa_cons (pe_ifExp (pt_cmpR (op_neNil hu) (pv 6) (pe_lst pa_nil) (nomark _)) (pe_tup (pa_cons pe_str (pa_cons pe_non pa_nil))) (pe_tup (pa_cons pe_str (pa_cons (pe_tup pa_nil) pa_nil)))) (pa_cons (pe_try (k := 3) (L := fun _ : Unit => lamU) T SE hr hk (fun _ => lamU_ok) (fun _ => undo_lam T R) (pel_own (fr := ["_law_shelf"]) (js := [8]) Z.tL rfl rfl (NdefX.ndef_free lamU_nd) (NdefX.ndef_fr lamU_nd) rfl)) pa_nil)) rfl)
      (pss_one (ps_if (pt_cmpR (op_neNil hu) (pv 6) (pe_lst pa_nil) (nomark _)) (pss_one (ps_par (i := 7) (j := 5) rfl sc_law.nd rfl rfl (by decide) rfl rfl (pa_cons (pe_op op_cat (pv 7) (pe_lst (pa_cons (pv 5) pa_nil))) (pa_cons (pe_bm0 PySem.F.plainAttrs_list PySem.F.slot_list_pop PySem.F.type_list_pop mt_pop (pv 6)) pa_nil)) rfl)) pss_nil))) fun D σ H h => ?_
  obtain ⟨hn, ⟨Mu, Ch, vc, pp, pl, ls, x0, x3, x9, x10, x11, x12, x13, x14, x15, x16, rfl, i, fit, len⟩, q⟩ := h
  have la : ls.past.length ≤ 1000 := by omega
  have lb : ls.fut.length ≤ 1000 := by omega
  obtain ⟨vs, hp, rp⟩ := i.pas
  refine ⟨_, rfl, Nat.zero_le _, fun t nt => ⟨pp, t, vs, rfl, rfl, same_new nt _ _ hp, upd_same, ?_⟩⟩
  have s1 : Same H (upd H t (.lst [])) := same_new nt
  have i1 := i.same s1
  generalize upd H t (.lst []) = H1 at s1 i1 ⊢
  rcases List.eq_nil_or_concat ls.past with e0 | ⟨l, es, e0⟩
  · rw [e0] at rp
    cases rp
    have eU : undone ls = none := by
      unfold undone
      rw [e0]
      rfl
    have eb : behindG undone ls = ls := by
      unfold behindG
      rw [eU]
    refine ⟨_, rfl, iteF ⟨by show 0 ≤ sizeLine; decide, fun p1 m1 => ⟨by show 2 ≤ sizeLine; decide, fun p2 m2 => ?_⟩⟩⟩
    have s3 := (same_new (o := .tup []) m1).trans (same_new (o := .tup [V.str "NothingLeft", .ref p1]) m2)
    have i3 := i1.same s3
    have d3 : Dat Mu (upd (upd H1 p1 (.tup [])) p2 (.tup [V.str "NothingLeft", .ref p1])) (.ref p2) (dueD (.inl .nothing : Er ⊕ Unit)) := .tup (fun m => (i1.wl.same (same_new m1)) p2 m m2) upd_same (.cons (.str _) (.cons (.tup (fun m => i1.wl p1 m m1) (same_new m2 _ _ upd_same) .nil) .nil))
    generalize upd (upd H1 p1 (.tup [])) p2 (.tup [V.str "NothingLeft", .ref p1]) = H3 at s3 i3 d3 ⊢
    refine ask_step rfl (fun _ _ _ _ _ => rfl) i3 rfl la lb fun Mv Cv v H4 t4 i4 dv => ⟨_, _, rfl, ?_⟩
    rw [eb] at i4
    rw [eU] at dv
    obtain ⟨vs4, hp4, rp4⟩ := i4.pas
    rw [e0] at rp4
    cases rp4
    refine ⟨_, rfl, Nat.zero_le _, fun t5 n5 => ⟨pp, t5, [], rfl, rfl, same_new n5 _ _ hp4, upd_same, ⟨_, rfl, iteF (q _ _ ?_)⟩⟩⟩
    exact ⟨Mv, Cv, vc, pp, pl, ls, .ref p2, v, .inl .nothing, x0, x3, x9, x10, x13, x14, x15, x16, rfl, i4.same (same_new n5), fit, Nat.le_succ_of_le len, (d3.tr t4).same (same_new n5), dv.same (same_new n5)⟩
  · rw [List.concat_eq_append] at e0
    have eU := undone_last e0
    have eb : behindG undone ls = ⟨es, l, ls.fut ++ [ls.con]⟩ := by
      unfold behindG
      rw [eU]
    rw [e0, List.map_append] at rp
    obtain ⟨ws, v0, rfl, _, _⟩ := dats_last rp
    have e1 : (ws ++ [v0]).isEmpty = false := by simp
    rw [e1]
    refine ⟨_, rfl, iteT ⟨by show 2 ≤ sizeLine; decide, fun p2 m2 => ?_⟩⟩
    have s3 := same_new (o := .tup [V.str "", .non]) m2
    have i3 := i1.same s3
    have d3 : Dat Mu (upd H1 p2 (.tup [V.str "", .non])) (.ref p2) (dueD (.inr () : Er ⊕ Unit)) := .tup (fun m => i1.wl p2 m m2) upd_same (.cons (.str _) (.cons .non .nil))
    generalize upd H1 p2 (.tup [V.str "", .non]) = H3 at s3 i3 d3 ⊢
    refine ask_step rfl (fun _ _ _ _ _ => rfl) i3 rfl la lb fun Mv Cv v H4 t4 i4 dv => ⟨_, _, rfl, ?_⟩
    rw [eb] at i4
    rw [eU] at dv
    obtain ⟨vs4, hp4, rp4⟩ := i4.pas
    rw [e0, List.map_append] at rp4
    obtain ⟨ws4, v4, rfl, _, _⟩ := dats_last rp4
    have e4 : (ws4 ++ [v4]).isEmpty = false := by simp
    refine ⟨_, rfl, Nat.zero_le _, fun t5 n5 => ⟨pp, t5, _, rfl, rfl, same_new n5 _ _ hp4, upd_same, ?_⟩⟩
    rw [e4]
    refine ⟨_, rfl, iteT ?_⟩
    obtain ⟨xs, hl, rl⟩ := i4.lat
    have ll : xs.length ≤ 500 := by
      rw [rl.length, List.length_map]
      omega
    refine ⟨_, rfl, _, rfl, by show 1 ≤ sizeLine; decide, fun t6 n6 => ⟨pl, t6, xs, [vc], rfl, rfl, same_new n6 _ _ (same_new n5 _ _ hl), upd_same, by show xs.length + 1 ≤ sizeLine; exact Nat.le_trans (by omega : xs.length + 1 ≤ 501) (by decide), fun p6 m6 => ?_⟩⟩
    have s5 := (same_new (o := .lst []) n5).trans (same_new (o := .lst [vc]) n6)
    have i5 := i4.same s5
    have d5 := (d3.tr t4).same s5
    have dv5 := dv.same s5
    have hl5 := s5 _ _ hl
    generalize upd (upd H4 t5 (.lst [])) t6 (.lst [vc]) = H5 at s5 i5 m6 d5 dv5 hl5 ⊢
    have s6 := same_new (o := .lst (xs ++ [vc])) m6
    have hp6 : upd H5 p6 (.lst (xs ++ [vc])) p6 = some (.lst (xs ++ [vc])) := upd_same
    have t6' : Tr Mv H5 (wi Mv p6) (upd H5 p6 (.lst (xs ++ [vc]))) := .add i5.wl (.ofSame s6) m6 (by rw [hp6]; exact fun z => nomatch z)
    obtain ⟨i6, o6, ne1, ne2, ne3⟩ := i5.more s6 m6 (by rw [hp6]; exact fun z => nomatch z)
    have d6 := d5.tr t6'
    have dv6 := dv5.tr t6'
    have nl : LstD (wi Mv p6) (upd H5 p6 (.lst (xs ++ [vc]))) p6 ((ls.fut ++ [ls.con]).map lawC) := by
      obtain ⟨xs2, hx2, r2⟩ := i6.lat
      obtain rfl : xs2 = xs := by
        cases hx2.symm.trans (s6 _ _ hl5)
        rfl
      refine ⟨_, hp6, ?_⟩
      rw [List.map_append]
      exact r2.app (.cons i6.con .nil)
    generalize upd H5 p6 (.lst (xs ++ [vc])) = H6 at s6 hp6 t6' i6 d6 dv6 nl ⊢
    obtain ⟨vs7, v7, hp7, i7⟩ := (i6.rebind (pp' := pp) (pl' := p6) (ls' := ⟨ls.con, ls.past, ls.fut ++ [ls.con]⟩) i6.con i6.pas nl (i6.off pp (.inr (.inl rfl))) o6 (Ne.symm ne1) i.n2 ne3).popP e0
    refine ⟨_, rfl, .inl ⟨rfl, _, SqL.of hp7⟩, pp, vs7 ++ [v7], v7, rfl, rfl, hp7, by simp, ?_⟩
    rw [List.dropLast_concat]
    have k7 : Kp (wi Mv p6) H6 (upd H6 pp (.lst vs7)) := kp_upd (i6.off pp (.inr (.inl rfl))).2
    refine ⟨_, _, rfl, q _ _ ⟨wi Mv p6, Cv, v7, pp, p6, ⟨es, l, ls.fut ++ [ls.con]⟩, .ref p2, v, .inr (), x0, x3, x9, x10, x13, x14, x15, x16, rfl, i7, ?_, ?_, d6.keep k7, dv6.keep k7⟩⟩
    · have m : ∀ x, x ∈ l → x ∈ ls.past := fun x hx => by
        rw [e0]
        exact List.mem_append_left _ hx
      have ml : es ∈ ls.past := by
        rw [e0]
        exact List.mem_append_right _ (List.mem_singleton.mpr rfl)
      have sn : ∀ x ∈ ls.fut ++ [ls.con], Fit 4 x := fun x hx => by
        rcases List.mem_append.mp hx with z | z
        · exact fit.fut x z
        · rw [List.mem_singleton.mp z]
          exact fit.con
      exact ⟨fit.pas es ml, fun x hx => fit.pas x (m x hx), sn⟩
    · have z := congrArg List.length e0
      rw [List.length_append, List.length_singleton] at z
      show l.length + (ls.fut ++ [ls.con]).length ≤ n + 1
      rw [List.length_append, List.length_singleton]
      omega
theorem br_redo (T : Txt w K mg c) (SE : Sees K mg c) (R : Exs P K mg c) (Z : Tbs K mg base cL PL cA PA) (hr : Room k (lawX P w K mg base f cL A outer s H0 E).A) (hk : 5 ≤ k) : PSs (lawX P w K mg base f cL A outer s H0 E) lawR (tBr c PL PA B S na sa ns st n) := by
  have hu : (lawX P w K mg base f cL A outer s H0 E).A.units < cLine := hr.units0
  refine PSs.by (pss_cons (ps_par (i := 11) (j := 12) rfl sc_law.nd rfl rfl (by decide) rfl rfl (pa_cons (pe_ifExp (pt_cmpR (op_neNil hu) (pv 7) (pe_lst pa_nil) (nomark _)) (pe_tup (pa_cons pe_str (pa_cons pe_non pa_nil))) (pe_tup (pa_cons pe_str (pa_cons (pe_tup pa_nil) pa_nil)))) (pa_cons (pe_try (k := 3) (L := fun _ : Unit => lamR) T SE hr hk (fun _ => lamR_ok) (fun _ => redo_lam T R) (pel_own (fr := ["_law_shelf"]) (js := [8]) Z.tL rfl rfl (NdefX.ndef_free lamR_nd) (NdefX.ndef_fr lamR_nd) rfl)) pa_nil)) rfl)
      (pss_one (ps_if (pt_cmpR (op_neNil hu) (pv 7) (pe_lst pa_nil) (nomark _)) (pss_one (ps_par (i := 6) (j := 5) rfl sc_law.nd rfl rfl (by decide) rfl rfl (pa_cons (pe_op op_cat (pv 6) (pe_lst (pa_cons (pv 5) pa_nil))) (pa_cons (pe_bm0 PySem.F.plainAttrs_list PySem.F.slot_list_pop PySem.F.type_list_pop mt_pop (pv 7)) pa_nil)) rfl)) pss_nil))) fun D σ H h => ?_
  obtain ⟨hn, ⟨Mu, Ch, vc, pp, pl, ls, x0, x3, x9, x10, x11, x12, x13, x14, x15, x16, rfl, i, fit, len⟩, q⟩ := h
  have la : ls.past.length ≤ 1000 := by omega
  have lb : ls.fut.length ≤ 1000 := by omega
  obtain ⟨vs, hp, rp⟩ := i.lat
  refine ⟨_, rfl, Nat.zero_le _, fun t nt => ⟨pl, t, vs, rfl, rfl, same_new nt _ _ hp, upd_same, ?_⟩⟩
  have s1 : Same H (upd H t (.lst [])) := same_new nt
  have i1 := i.same s1
  generalize upd H t (.lst []) = H1 at s1 i1 ⊢
  rcases List.eq_nil_or_concat ls.fut with e0 | ⟨l, es, e0⟩
  · rw [e0] at rp
    cases rp
    have eU : redone ls = none := by
      unfold redone
      rw [e0]
      rfl
    have eb : behindG redone ls = ls := by
      unfold behindG
      rw [eU]
    refine ⟨_, rfl, iteF ⟨by show 0 ≤ sizeLine; decide, fun p1 m1 => ⟨by show 2 ≤ sizeLine; decide, fun p2 m2 => ?_⟩⟩⟩
    have s3 := (same_new (o := .tup []) m1).trans (same_new (o := .tup [V.str "NothingLeft", .ref p1]) m2)
    have i3 := i1.same s3
    have d3 : Dat Mu (upd (upd H1 p1 (.tup [])) p2 (.tup [V.str "NothingLeft", .ref p1])) (.ref p2) (dueD (.inl .nothing : Er ⊕ Unit)) := .tup (fun m => (i1.wl.same (same_new m1)) p2 m m2) upd_same (.cons (.str _) (.cons (.tup (fun m => i1.wl p1 m m1) (same_new m2 _ _ upd_same) .nil) .nil))
    generalize upd (upd H1 p1 (.tup [])) p2 (.tup [V.str "NothingLeft", .ref p1]) = H3 at s3 i3 d3 ⊢
    refine ask_step rfl (fun _ _ _ _ _ => rfl) i3 rfl la lb fun Mv Cv v H4 t4 i4 dv => ⟨_, _, rfl, ?_⟩
    rw [eb] at i4
    rw [eU] at dv
    obtain ⟨vs4, hp4, rp4⟩ := i4.lat
    rw [e0] at rp4
    cases rp4
    refine ⟨_, rfl, Nat.zero_le _, fun t5 n5 => ⟨pl, t5, [], rfl, rfl, same_new n5 _ _ hp4, upd_same, ⟨_, rfl, iteF (q _ _ ?_)⟩⟩⟩
    exact ⟨Mv, Cv, vc, pp, pl, ls, .ref p2, v, .inl .nothing, x0, x3, x9, x10, x13, x14, x15, x16, rfl, i4.same (same_new n5), fit, Nat.le_succ_of_le len, (d3.tr t4).same (same_new n5), dv.same (same_new n5)⟩
  · rw [List.concat_eq_append] at e0
    have eU := redone_last e0
    have eb : behindG redone ls = ⟨es, ls.past ++ [ls.con], l⟩ := by
      unfold behindG
      rw [eU]
    rw [e0, List.map_append] at rp
    obtain ⟨ws, v0, rfl, _, _⟩ := dats_last rp
    have e1 : (ws ++ [v0]).isEmpty = false := by simp
    rw [e1]
    refine ⟨_, rfl, iteT ⟨by show 2 ≤ sizeLine; decide, fun p2 m2 => ?_⟩⟩
    have s3 := same_new (o := .tup [V.str "", .non]) m2
    have i3 := i1.same s3
    have d3 : Dat Mu (upd H1 p2 (.tup [V.str "", .non])) (.ref p2) (dueD (.inr () : Er ⊕ Unit)) := .tup (fun m => i1.wl p2 m m2) upd_same (.cons (.str _) (.cons .non .nil))
    generalize upd H1 p2 (.tup [V.str "", .non]) = H3 at s3 i3 d3 ⊢
    refine ask_step rfl (fun _ _ _ _ _ => rfl) i3 rfl la lb fun Mv Cv v H4 t4 i4 dv => ⟨_, _, rfl, ?_⟩
    rw [eb] at i4
    rw [eU] at dv
    obtain ⟨vs4, hp4, rp4⟩ := i4.lat
    rw [e0, List.map_append] at rp4
    obtain ⟨ws4, v4, rfl, _, _⟩ := dats_last rp4
    have e4 : (ws4 ++ [v4]).isEmpty = false := by simp
    refine ⟨_, rfl, Nat.zero_le _, fun t5 n5 => ⟨pl, t5, _, rfl, rfl, same_new n5 _ _ hp4, upd_same, ?_⟩⟩
    rw [e4]
    refine ⟨_, rfl, iteT ?_⟩
    obtain ⟨xs, hl, rl⟩ := i4.pas
    have ll : xs.length ≤ 500 := by
      rw [rl.length, List.length_map]
      omega
    refine ⟨_, rfl, _, rfl, by show 1 ≤ sizeLine; decide, fun t6 n6 => ⟨pp, t6, xs, [vc], rfl, rfl, same_new n6 _ _ (same_new n5 _ _ hl), upd_same, by show xs.length + 1 ≤ sizeLine; exact Nat.le_trans (by omega : xs.length + 1 ≤ 501) (by decide), fun p6 m6 => ?_⟩⟩
    have s5 := (same_new (o := .lst []) n5).trans (same_new (o := .lst [vc]) n6)
    have i5 := i4.same s5
    have d5 := (d3.tr t4).same s5
    have dv5 := dv.same s5
    have hl5 := s5 _ _ hl
    generalize upd (upd H4 t5 (.lst [])) t6 (.lst [vc]) = H5 at s5 i5 m6 d5 dv5 hl5 ⊢
    have s6 := same_new (o := .lst (xs ++ [vc])) m6
    have hp6 : upd H5 p6 (.lst (xs ++ [vc])) p6 = some (.lst (xs ++ [vc])) := upd_same
    have t6' : Tr Mv H5 (wi Mv p6) (upd H5 p6 (.lst (xs ++ [vc]))) := .add i5.wl (.ofSame s6) m6 (by rw [hp6]; exact fun z => nomatch z)
    obtain ⟨i6, o6, ne1, ne2, ne3⟩ := i5.more s6 m6 (by rw [hp6]; exact fun z => nomatch z)
    have d6 := d5.tr t6'
    have dv6 := dv5.tr t6'
    have nl : LstD (wi Mv p6) (upd H5 p6 (.lst (xs ++ [vc]))) p6 ((ls.past ++ [ls.con]).map lawC) := by
      obtain ⟨xs2, hx2, r2⟩ := i6.pas
      obtain rfl : xs2 = xs := by
        cases hx2.symm.trans (s6 _ _ hl5)
        rfl
      refine ⟨_, hp6, ?_⟩
      rw [List.map_append]
      exact r2.app (.cons i6.con .nil)
    generalize upd H5 p6 (.lst (xs ++ [vc])) = H6 at s6 hp6 t6' i6 d6 dv6 nl ⊢
    obtain ⟨vs7, v7, hp7, i7⟩ := (i6.rebind (pp' := p6) (pl' := pl) (ls' := ⟨ls.con, ls.past ++ [ls.con], ls.fut⟩) i6.con nl i6.lat o6 (i6.off pl (.inr (.inr (.inl rfl)))) ne2 ne3 i.n3).popF e0
    refine ⟨_, rfl, .inl ⟨rfl, _, SqL.of hp7⟩, pl, vs7 ++ [v7], v7, rfl, rfl, hp7, by simp, ?_⟩
    rw [List.dropLast_concat]
    have k7 : Kp (wi Mv p6) H6 (upd H6 pl (.lst vs7)) := kp_upd (i6.off pl (.inr (.inr (.inl rfl)))).2
    refine ⟨_, _, rfl, q _ _ ⟨wi Mv p6, Cv, v7, p6, pl, ⟨es, ls.past ++ [ls.con], l⟩, .ref p2, v, .inr (), x0, x3, x9, x10, x13, x14, x15, x16, rfl, i7, ?_, ?_, d6.keep k7, dv6.keep k7⟩⟩
    · have m : ∀ x, x ∈ l → x ∈ ls.fut := fun x hx => by
        rw [e0]
        exact List.mem_append_left _ hx
      have ml : es ∈ ls.fut := by
        rw [e0]
        exact List.mem_append_right _ (List.mem_singleton.mpr rfl)
      have sn : ∀ x ∈ ls.past ++ [ls.con], Fit 4 x := fun x hx => by
        rcases List.mem_append.mp hx with z | z
        · exact fit.pas x z
        · rw [List.mem_singleton.mp z]
          exact fit.con
      exact ⟨fit.fut es ml, sn, fun x hx => fit.fut x (m x hx)⟩
    · have z := congrArg List.length e0
      rw [List.length_append, List.length_singleton] at z
      show (ls.past ++ [ls.con]).length + l.length ≤ n + 1
      rw [List.length_append, List.length_singleton]
      omega
end
end AG
namespace AG
open PySem PySem.Spec PyProof.Rows L2
open NdefX (CellsAt startF slotAt)
theorem PS.by {X : Cx} {b : Stmt} {t t' : TS} (h : PS X b t) (f : ∀ D σ H, t' D σ H → t D σ H) : PS X b t' := ⟨fun pins s σ H D I q => h.run pins s σ H D I (f D σ H q)⟩
/-- from one state to another -/
def tFromTo (I J : L2.St → Hp → Prop) : TS := fun D σ H => I σ H ∧ ∀ σ' H', J σ' H' → D.nx σ' H'
/-! ### afters -/
theorem afters_stay {lim : Nat} {e : Er} : ∀ {a b : List Deed} {l : List Ent}, afters lim l a = .inl e → afters lim l (a ++ b) = .inl e
  | [], _, _, h => by
    unfold afters at h
    cases h
  | dd :: r, b, l, h => by
    unfold afters at h
    show afters lim l (dd :: (r ++ b)) = _
    unfold afters
    cases ha : after l lim dd with
    | inl x =>
      rw [ha] at h
      exact h
    | inr m =>
      rw [ha] at h
      exact afters_stay h
theorem er_named : ∀ e : Er, e.code ≠ ""
  | .circ _ => show ("Circular" : Str) ≠ "" by decide +kernel
  | .inuse _ => show ("NameInUse" : Str) ≠ "" by decide +kernel
  | .full _ => show ("Full" : Str) ≠ "" by decide +kernel
  | .unknown _ => show ("UnknownName" : Str) ≠ "" by decide +kernel
  | .nothing => show ("NothingLeft" : Str) ≠ "" by decide +kernel
/-! ### apply: what holds between -/
section
variable (c : Cs) (PL PA B S na sa : Addr) (ns : List Str) (st : List Thing) (n : Nat)
noncomputable abbrev dueOf (ls : Sta) (lds : List LDeed) : Er ⊕ List Ent := afters 4 ls.con (lds.map (LDeed.deed st))
structure LDs (Mu : Mut1) (H : Hp) (da : Addr) (us : List V) (lds : List LDeed) : Prop where
  le : lds.length ≤ 3
  ok : ∀ ld ∈ lds, LOk st ld
  off : ¬ Mu da
  at_ : H da = some (.lst us)
  dat : Dats Mu H us (lds.map LDeed.d)
def LM1 (σ : L2.St) (H : Hp) : Prop := ∃ Mu Ch vc pp pl ls x0 x3 x9 x10 x12 x13 x16 lds da us vd, σ = LSt B na sa S vc pp pl x0 x3 x9 x10 (some vd) x12 x13 (some (.ref da)) (some vc) x16 ∧ LInv c PL PA B S na sa ns st Mu Ch vc pp pl ls ls H ∧ Fits ls ∧ ls.past.length + ls.fut.length ≤ n ∧ LDs st Mu H da us lds ∧ Dat Mu H vd okD
def LM2 (σ : L2.St) (H : Hp) : Prop := ∃ Mu Ch vc pp pl ls x0 x3 x9 x10 x12 x13 x16 lds da us vd vn, σ = LSt B na sa S vc pp pl x0 x3 x9 x10 (some vd) x12 x13 (some (.ref da)) (some vn) x16 ∧ LInv c PL PA B S na sa ns st Mu Ch vc pp pl ls ls H ∧ Fits ls ∧ ls.past.length + ls.fut.length ≤ n ∧ LDs st Mu H da us lds ∧ Dat Mu H vd (dueD (dueOf st ls lds)) ∧ ∀ l, dueOf st ls lds = .inr l → Dat Mu H vn (lawC l) ∧ Fit 4 l
noncomputable def behindA (ls : Sta) (lds : List LDeed) : Sta := match dueOf st ls lds with
  | .inl _ => ls
  | .inr l => ⟨l, ls.past ++ [ls.con], []⟩
def LM3 (σ : L2.St) (H : Hp) : Prop := ∃ Mu Ch vc pp pl ls x0 x3 x9 x10 x13 x14 x16 lds vd vn vf, σ = LSt B na sa S vc pp pl x0 x3 x9 x10 (some vd) (some vf) x13 x14 (some vn) x16 ∧ LInv c PL PA B S na sa ns st Mu Ch vc pp pl (behindA st ls lds) ls H ∧ Fits ls ∧ ls.past.length + ls.fut.length ≤ n ∧ Dat Mu H vd (dueD (dueOf st ls lds)) ∧ (∀ l, dueOf st ls lds = .inr l → Dat Mu H vn (lawC l) ∧ Fit 4 l) ∧ Dat Mu H vf (dueD (dueOf st ls lds))
end
/-- the stock -/
structure Stk (st : List Thing) : Prop where
  ok : ∀ t ∈ st, ThingOk t
  lo : 1 ≤ st.length
  hi : st.length ≤ 100
section
variable {P : Program} {w : World} {K : PySem.W.Frag} {mg : Str → Option Value} {base : Heap} {c : Cs} {k : Nat} {f : Addr} {A : Around} {outer : List Env} {s : Shared} {H0 : Hp} {E : XK} {cL PL cA PA B S na sa : Addr} {ns : List Str} {st : List Thing} {n : Nat}
theorem br_ap1 (T : Txt w K mg c) (hst : Stk st) (hr : Room k (lawX P w K mg base f cL A outer s H0 E).A) (hk : 20 ≤ k) : PS (lawX P w K mg base f cL A outer s H0 E) (stAt lawA 0) (tFromTo (LAt c PL PA B S na sa ns st n) (LM1 c PL PA B S na sa ns st n)) := by
  refine PS.by (ps_par3 (i := 14) (j := 15) (l := 11) rfl sc_law.nd rfl rfl rfl (by decide) (by decide) (by decide) rfl rfl rfl (pa_cons (pe_lc (own := [("_law_k", 13)]) (te := tCall spLDeed [] E0 (tCons (tVar 1) (tCons (tVar 2) (tCons (tVar 4) tNil)))) rfl sc_law.nd (pi_range1 (by rfl) T.n_range (pa_cons (dcall (ok__law_pull T) hr (by omega) pass0 (pa_cons (pv 1) (pa_cons pe_int pa_nil))) pa_nil)) (blkOk_by (N := lawN) (sc := (defScope s_law)) (by decide +kernel)) (fun _ _ _ _ _ => (pg_name (i := 13) sc_law.nd rfl (Or.inl rfl))) (fun _ _ _ _ _ => pts_nil) (fun _ _ _ _ _ => (dcall (ok__law_deed T) hr (by omega) pass0 (pa_cons (pv 1) (pa_cons (pv 2) (pa_cons (pv 4) pa_nil)))))) (pa_cons (pv 5) (pa_cons (pe_tup (pa_cons pe_str (pa_cons pe_non pa_nil))) pa_nil))) rfl) fun D σ H h => ?_
  obtain ⟨⟨Mu, Ch, vc, pp, pl, ls, x0, x3, x9, x10, x11, x12, x13, x14, x15, x16, rfl, i, fit, len⟩, q⟩ := h
  have mB := i.bag.mu
  refine ⟨_, rfl, Mu, B, 4, rfl, i.bag, by decide, by decide, fun r1 H1 r10 r11 k1 b1 => ?_⟩
  obtain ⟨m1, rfl⟩ := Int.eq_ofNat_of_zero_le r10
  have i1 := i.drawn k1 b1
  refine ⟨_, rfl, by omega, by omega, fun D2 hD => ?_⟩
  have gD : ∀ b, wi Mu D2 b → Mu b ∨ H1 b = none := fun b m => m.imp id fun e => by rw [show b = D2 from e]; exact hD
  have bD := BagD.of b1 hD
  have nd1 := i1.nam.grow gD
  have sd1 := i1.stk.grow gD
  refine lc_any (n := m1) (walk_range (lo := 0) (n := m1)) (Mc := fun b => b = B) (Mu := Mu) (fun b e => e ▸ mB) i1.wl hD (by omega) (fun i ds => ∃ zs : List LDeed, zs.length = i ∧ (∀ z ∈ zs, LOk st z) ∧ ds = zs.map LDeed.d) ⟨[], rfl, fun _ h => (List.not_mem_nil h).elim, rfl⟩ (fun _ H => BagD Mu D2 B H) bD (fun _ _ _ b => b.upd) (fun _ _ _ _ => trivial) ?_ ?_
  · rintro i x H2' H2 ds add skip hi k2 wl2 hD2 bd2 ⟨zs, el, hz, rfl⟩ ⟨rfl, rfl⟩ ha -
    have kU : Kp (wi Mu D2) H1 H2 := k2.wide fun b m => m.elim (fun e => .inl ((show b = B from e) ▸ mB)) .inr
    have bB := bd2.bg
    refine ⟨rfl, ?_⟩
    refine ⟨_, rfl, _, rfl, _, rfl, wi Mu D2, B, na, sa, ns, st, rfl, wl2, bB, nd1.keep kU, sd1.keep kU, hst.lo, hst.hi, fun ld v4 H4 lk k4 b4 d4 => ?_⟩
    refine ha v4 H4 ld.d k4 (kp_same_at k4 (Ne.symm bd2.ne) hD2) d4 ⟨zs ++ [ld], by rw [List.length_append, el]; rfl, ?_, by rw [List.map_append]; rfl⟩ ⟨bd2.ne, b4⟩
    intro z hz2
    rcases List.mem_append.mp hz2 with m | m
    · exact hz z m
    · rw [List.mem_singleton.mp m]
      exact lk
  · rintro H2 us ds k2 hx r2 ⟨lds, el, ok, rfl⟩ bd2 mD
    have i2 := i1.drawn k2 (bd2.out mB)
    refine ⟨_, rfl, by show 2 ≤ sizeLine; decide, fun p3 n3 => ?_⟩
    have s3 := same_new (o := .tup [V.str "", .non]) n3
    have d3 : Dat Mu (upd H2 p3 (.tup [V.str "", .non])) (.ref p3) okD := .tup (fun m => i2.wl p3 m n3) upd_same (.cons (.str _) (.cons .non .nil))
    refine ⟨_, _, _, rfl, q _ _ ⟨Mu, Ch, vc, pp, pl, ls, x0, x3, x9, x10, x12, x13, x16, lds, D2, us, .ref p3, rfl, i2.same s3, fit, len, ⟨by omega, ok, mD, s3 _ _ hx, r2.same s3⟩, d3⟩⟩
theorem dats_at {Mu : Mut1} {H : Hp} : ∀ {xs : List V} {ds : List PyData} {i : Nat} {v : V}, Dats Mu H xs ds → xs[i]? = some v → ∃ d, ds[i]? = some d ∧ Dat Mu H v d
  | _, _, _, _, .nil, e => by simp at e
  | _, _, 0, _, .cons h _, e => by
    cases e
    exact ⟨_, rfl, h⟩
  | _, _, i + 1, _, .cons _ r, e => dats_at (i := i) r e
/-- what due says first -/
theorem due_first {α : Type} (r : Er ⊕ α) : (itemsD (dueD r))[0]? = some (.str (match r with
  | .inl e => e.code
  | .inr _ => "")) := by
  cases r with
  | inr a => rfl
  | inl e => cases e <;> rfl
theorem br_ap2 (T : Txt w K mg c) (hst : Stk st) (hr : Room k (lawX P w K mg base f cL A outer s H0 E).A) (hk : 20 ≤ k) : PS (lawX P w K mg base f cL A outer s H0 E) (stAt lawA 1) (tFromTo (LM1 c PL PA B S na sa ns st n) (LM2 c PL PA B S na sa ns st n)) := by
  refine PS.by (ps_for (passes_of rfl) rfl (pi_list (pv 14)) (pg_name (i := 16) sc_law.nd rfl (Or.inl rfl)) (pss_one (ps_if (pt_cmpR op_eqC (pe_ix ix_dat (pv 11) pe_int (fun _ _ => rfl)) pe_str (nomark _)) (pss_one (ps_asg (dcall (ok__law_due T) hr (by omega) pass0 (pa_cons (pv 15) (pa_cons (pv 16) (pa_cons (pv 4) (pa_cons pe_int pa_nil))))) (pg_tup rfl (pgs_cons (pg_name (i := 11) sc_law.nd rfl (Or.inl rfl)) (pgs_cons (pg_name (i := 15) sc_law.nd rfl (Or.inl rfl)) pgs_nil))))) pss_nil))) fun D σ H h => ?_
  obtain ⟨⟨Mu, Ch, vc, pp, pl, ls, x0, x3, x9, x10, x12, x13, x16, lds, da, us, vd, rfl, i, fit, len, L, dd⟩, q⟩ := h
  have ul : us.length = lds.length := by rw [L.dat.length, List.length_map]
  refine ⟨_, rfl, da, rfl, ⟨us, SqL.of L.at_⟩, ?_⟩
  refine for_it (walk_list (xs := us)) (fun j σ Hj => ∃ vd vn x16, σ = LSt B na sa S vc pp pl x0 x3 x9 x10 (some vd) x12 x13 (some (.ref da)) (some vn) x16 ∧ Same H Hj ∧ Dat Mu Hj vd (dueD (dueOf st ls (lds.take j))) ∧ ∀ l, dueOf st ls (lds.take j) = .inr l → Dat Mu Hj vn (lawC l) ∧ Fit 4 l)
    ⟨vd, vc, x16, rfl, .refl _, dd, fun l e => ?_⟩ (fun j σ Hj _ ⟨_, _, _, _, sj, _⟩ => SqL.of (sj _ _ L.at_)) ?_ ?_
  · cases e
    exact ⟨i.con, fit.con⟩
  · rintro j y σ Hj Hj' hj ⟨vd, vn, x16, rfl, sj, dj, nj⟩ ⟨rfl, hy⟩
    obtain ⟨d, hd, dy⟩ := dats_at L.dat hy
    rw [List.getElem?_map] at hd
    cases hl : lds[j]? with
    | none =>
      rw [hl] at hd
      cases hd
    | some ld =>
    rw [hl] at hd
    cases hd
    have hds : (lds.map (LDeed.deed st))[j]? = some (ld.deed st) := by
      rw [List.getElem?_map, hl]
      rfl
    have tk : (lds.take j).map (LDeed.deed st) = (lds.map (LDeed.deed st)).take j := List.map_take
    have tk1 : (lds.take (j + 1)).map (LDeed.deed st) = (lds.map (LDeed.deed st)).take (j + 1) := List.map_take
    have lk := L.ok ld (List.mem_of_getElem? hl)
    have ij := i.same sj
    refine ⟨_, rfl, Mu, _, _, 0, dj, rfl, due_first _, fun z dz => ?_⟩
    obtain rfl := dz.asStr
    unfold dueOf at dj nj ⊢
    rw [tk] at dj nj ⊢
    rw [tk1]
    cases hr : afters 4 ls.con ((lds.map (LDeed.deed st)).take j) with
    | inl e =>
      rw [hr] at dj nj
      have stay : afters 4 ls.con ((lds.map (LDeed.deed st)).take (j + 1)) = .inl e := by
        rw [take_succ hds]
        exact afters_stay hr
      refine ⟨rfl, fun z => absurd (V.str.inj z) (er_named e), fun _ => ⟨_, rfl, iteF ?_⟩⟩
      refine ⟨vd, vn, _, rfl, sj, ?_, fun l z => ?_⟩
      · rw [stay]
        exact dj
      · rw [stay] at z
        cases z
    | inr m =>
      rw [hr] at dj nj
      obtain ⟨dn, fm⟩ := nj m rfl
      refine ⟨rfl, fun _ => ⟨_, rfl, iteT ?_⟩, fun z => absurd rfl z⟩
      refine ⟨_, rfl, _, rfl, _, rfl, Mu, vn, y, .ref sa, m, st, ld, 4, rfl, ij.wl, dn, dy.same sj, ij.stk, fm.ok, fm.nd, fm.cl, Nat.le_trans fm.le (by decide), hst.ok, lk, fun q9 H9 s9 d9 => ?_⟩
      obtain ⟨p9, ts, rfl, _, h9, r9⟩ := d9.asTup
      obtain ⟨t1, t2, rfl, d1, d2⟩ : ∃ t1 t2, ts = [t1, t2] ∧ Dat Mu H9 t1 (dueD (after m 4 (ld.deed st))) ∧ Dat Mu H9 t2 (lawC (conE m (after m 4 (ld.deed st)))) := by
        cases r9 with
        | cons a t =>
          cases t with
          | cons b t =>
            cases t
            exact ⟨_, _, rfl, a, b⟩
      refine ⟨p9, _, rfl, SqT.of h9, rfl, _, _, rfl, _, _, rfl, rfl, ?_⟩
      have nxt := afters_take hr hds
      refine ⟨t1, t2, _, rfl, sj.trans s9, ?_, fun l z => ?_⟩
      · rw [nxt]
        cases ha : after m 4 (ld.deed st) with
        | inl e =>
          rw [ha] at d1
          exact d1
        | inr l =>
          rw [ha] at d1
          exact d1
      · rw [nxt] at z
        cases ha : after m 4 (ld.deed st) with
        | inl e =>
          rw [ha] at z
          cases z
        | inr l2 =>
          rw [ha] at z d2
          cases z
          exact ⟨d2, fit_after fm (lk.deed hst.ok) ha⟩
  · rintro σ Hj ⟨vd, vn, x16, rfl, sj, dj, nj⟩
    rw [ul, List.take_length] at dj nj
    exact q _ _ ⟨Mu, Ch, vc, pp, pl, ls, x0, x3, x9, x10, x12, x13, x16, lds, da, us, vd, vn, rfl, i.same sj, fit, len, ⟨L.le, L.ok, L.off, sj _ _ L.at_, L.dat.same sj⟩, dj, nj⟩
end
end AG
namespace AG
open PySem PySem.Spec PyProof.Rows L2
open NdefX (CellsAt startF slotAt)
theorem lamW_fr (q : Str) (fr : List Str) (e : Expr) : (lamW q fr e).fr = fr := by cases e <;> rfl
theorem kp_new_same {D : Addr} {H H' : Hp} (k : Kp (fun b => b = D) H H') (n : H D = none) : Same H H' := fun b o e => k.at_ b o (ne_of_none e n) e
theorem Deeds.grow {c : Cs} {Mu Mv : Mut1} {H : Hp} (g : ∀ b, Mv b → Mu b ∨ H b = none) : ∀ {vs : List V} {ds : List Deed}, Deeds c Mu H vs ds → Deeds c Mv H vs ds
  | _, _, .nil => .nil
  | _, _, .cons h r => .cons (h.grow g) (Deeds.grow g r)
theorem Deeds.keep {c : Cs} {Mu : Mut1} {H H' : Hp} (k : Kp Mu H H') : ∀ {vs : List V} {ds : List Deed}, Deeds c Mu H vs ds → Deeds c Mu H' vs ds
  | _, _, .nil => .nil
  | _, _, .cons h r => .cons (h.keep k) (Deeds.keep k r)
section
variable {P : Program} {w : World} {K : PySem.W.Frag} {mg : Str → Option Value} {base : Heap} {c : Cs} {k : Nat} {f : Addr} {A : Around} {outer : List Env} {s : Shared} {H0 : Hp} {E : XK} {cL PL cA PA B S na sa : Addr} {ns : List Str} {st : List Thing} {n : Nat}
/-- apply is asked -/
theorem ask_apply {Mu Ch : Mut1} {vc : V} {pp pl : Addr} {ls : Sta} {H : Hp} {σ : L2.St} {t : TA} {Q : VK} {lds : List LDeed} (hst : Stk st) (i : LInv c PL PA B S na sa ns st Mu Ch vc pp pl ls ls H) (fit : Fits ls) (l1 : ls.past.length ≤ 1000) (le : lds.length ≤ 3) (ok : ∀ ld ∈ lds, LOk st ld)
    (ht : ∀ R : List V → Hp → Prop, (∀ D Hm us, Same H Hm → H D = none → Hm D = some (.lst us) → Deeds c Mu Hm us (lds.map (LDeed.deed st)) → R [.ref S, .ref D] Hm) → t σ H R)
    (q : ∀ Mv Cv v H', Tr Mu H Mv H' → LInv c PL PA B S na sa ns st Mv Cv vc pp pl (behindA st ls lds) ls H' → Dat Mv H' v (dueD (dueOf st ls lds)) → Q v H') :
    tTry c (fun i : Fin 4 => apL i.val) (tApp PA t) (fun i => apT c i.val) σ H Q := by
  refine ht _ fun D Hm us sm nD hD dv => ?_
  have im := i.same sm
  have lu : us.length = lds.length := by rw [dv.len, List.length_map]
  refine ⟨.ref S, D, us, fun b => Mu b ∧ b ≠ PA, rfl, hD, fun b m => im.wl b m.1, im.tA.to, by omega, fun H2 t2 h2 => ?_⟩
  have i2 := im.lamA t2 (.of h2)
  have k2 : Kp Mu Hm H2 := t2.kp.wide fun b e => e ▸ (im.off PA (.inr (.inr (.inr (.inr rfl))))).2
  have tr2 : Tr Mu H Mu H2 := (Tr.ofSame i.wl sm).trans (.ofKp im.wl k2)
  have dv2 := dv.keep k2
  have hD2 : H2 D = some (.lst us) := t2.at_ hD fun ps => nofun
  obtain ⟨dx, d, p, f, x, hS⟩ := shl_ins i2.shl
  refine ⟨S, D, dx, _, us, by rw [show (apL us.length).fr = apFr us.length from lamW_fr _ _ _], hD2, rfl, hS, rfl, ?_⟩
  refine ⟨[.ref S], us, rfl, rfl, Nat.le_trans (show us.length ≤ 3 by omega) (by decide), fun p3 n3 => ?_⟩
  have s3 := same_new (o := .tup us) n3
  have i3 := i2.same s3
  have hp3 : upd H2 p3 (.tup us) p3 = some (.tup us) := upd_same
  have tr3 := tr2.trans (.ofSame i2.wl s3)
  have dv3 := dv2.keep (.ofSame s3)
  have np3 : ¬ Mu p3 := fun m => i2.wl p3 m n3
  generalize upd H2 p3 (.tup us) = H3 at s3 i3 hp3 tr3 dv3 ⊢
  refine ⟨Mu, S, p3, 4, ls, us, lds.map (LDeed.deed st), rfl, i3.wl, np3, hp3, dv3, fun d hd => ?_, by rw [List.length_map]; exact le, i3.shl, l1, fit.con, by decide, ?_⟩
  · obtain ⟨ld, hl, rfl⟩ := List.mem_map.mp hd
    exact (ok ld hl).deed hst.ok
  · unfold behindA at q
    unfold applied
    unfold dueOf at q
    cases hA : afters 4 ls.con (lds.map (LDeed.deed st)) with
    | inl e =>
      rw [hA] at q
      intro dd H4 t4 mv sh4 hx
      obtain ⟨Cv, i4⟩ := i3.asked t4 mv sh4
      refine ⟨e, dd, rfl, rfl, hx, fun v H5 s5 dv5 => ?_⟩
      exact q Mu Cv v H5 ((tr3.trans t4).trans (.ofSame t4.wl s5)) (i4.same s5) (dv5 Mu t4.wl)
    | inr l =>
      rw [hA] at q
      intro Mv H4 t4 mv sh4
      obtain ⟨Cv, i4⟩ := i3.asked t4 mv sh4
      exact KT.of fun p9 n9 => q Mv Cv _ _ ((tr3.trans t4).trans (.ofSame t4.wl (same_new n9))) (i4.same (same_new n9)) (.tup (fun m => t4.wl p9 m n9) upd_same (.cons (.str _) (.cons .non .nil)))
theorem br_ap3 (T : Txt w K mg c) (SE : Sees K mg c) (R : Exs P K mg c) (Z : Tbs K mg base cL PL cA PA) (hst : Stk st) (hn : n ≤ 500) (hr : Room k (lawX P w K mg base f cL A outer s H0 E).A) (hk : 20 ≤ k) : PS (lawX P w K mg base f cL A outer s H0 E) (stAt lawA 2) (tFromTo (LM2 c PL PA B S na sa ns st n) (LM3 c PL PA B S na sa ns st n)) := by
  refine PS.by (ps_set (i := 12) sc_law.nd rfl (Or.inl rfl) (pe_try (k := 9) (L := fun i : Fin 4 => apL i.val) T SE hr (by omega) ap_ok (ap_lam T R) (pel_app T Z.app Z.tA hr (by omega) (pa_cons (pv 8) (pa_cons (pe_lc (own := [("_law_deed_here", 16)]) (te := tCall (spLMade c) [] E0 (tCons (tVar 16) (tCons (tVar 4) tNil))) rfl sc_law.nd (pi_list (pv 14)) (blkOk_by (N := lawN) (sc := (defScope s_law)) (by decide +kernel)) (fun _ _ _ _ _ => (pg_name (i := 16) sc_law.nd rfl (Or.inl rfl))) (fun _ _ _ _ _ => pts_nil) (fun _ _ _ _ _ => (dcall (ok__law_made_deed T) hr (by omega) pass0 (pa_cons (pv 16) (pa_cons (pv 4) pa_nil))))) pa_nil))))) fun D σ H h => ?_
  obtain ⟨⟨Mu, Ch, vc, pp, pl, ls, x0, x3, x9, x10, x12, x13, x16, lds, da, us, vd, vn, rfl, i, fit, len, L, dd, nd⟩, q⟩ := h
  refine ask_apply (lds := lds) hst i fit (by omega) L.le L.ok (fun Rq hR => ?_) fun Mv Cv v H4 t4 i4 dv => ?_
  · have ul : us.length = lds.length := by rw [L.dat.length, List.length_map]
    refine ⟨_, rfl, _, rfl, da, rfl, ⟨us, SqL.of L.at_⟩, fun D2 hD => ?_⟩
    have dw := Dats.wiNew hD L.dat
    have sw := i.stk.wiNew hD
    have nda : da ≠ D2 := ne_of_none L.at_ hD
    refine lc_it (walk_list (xs := us)) (fun j Hj => ∃ xs, Kp (fun b => b = D2) H Hj ∧ Hj D2 = some (.lst xs) ∧ Deeds c (wi Mu D2) Hj xs ((lds.take j).map (LDeed.deed st)) ∧ xs.length = j) ⟨[], kp_at, upd_same, .nil, rfl⟩ (fun j Hj _ ⟨_, kj, _⟩ => SqL.of (kj.at_ _ _ nda L.at_)) ?_ ?_
    · rintro j y Hj' Hj hj ⟨xs, kj, hx, rx, lx⟩ ⟨rfl, hy⟩
      obtain ⟨d, hd, dy⟩ := dats_at dw hy
      rw [List.getElem?_map] at hd
      cases hl : lds[j]? with
      | none =>
        rw [hl] at hd
        cases hd
      | some ld =>
      rw [hl] at hd
      cases hd
      have kU : Kp (wi Mu D2) H Hj := kj.wide fun b e => .inr e
      have sD : Hj D2 ≠ none := by
        rw [hx]
        exact fun z => nomatch z
      have wlD : Wl (wi Mu D2) Hj := fun b m => m.elim (fun m => kj.there b (i.wl b m)) fun e => (show b = D2 from e) ▸ sD
      refine ⟨rfl, _, rfl, _, rfl, wi Mu D2, y, .ref sa, st, ld, rfl, wlD, dy.keep kU, sw.keep kU, hst.ok, L.ok ld (List.mem_of_getElem? hl), fun v H4 s4 d4 => ?_⟩
      refine ⟨xs, s4 _ _ hx, Nat.lt_of_le_of_lt (show xs.length ≤ 3 by have := L.le; omega) (by decide), xs ++ [v], (kj.trans (.ofSame s4)).trans kp_at, upd_same, ?_, by rw [List.length_append, lx]; rfl⟩
      rw [take_succ hl, List.map_append]
      exact Paired.snoc ((rx.keep (.ofSame s4)).keep (kp_upd (.inr rfl))) (d4.keep (kp_upd (.inr rfl)))
    · rintro Hm ⟨xs, km, hx, rx, lx⟩
      rw [ul, List.take_length] at rx
      exact hR D2 Hm xs (kp_new_same km hD) hD hx (rx.grow fun b m => .inl (.inl m))
  · exact q _ _ ⟨Mv, Cv, vc, pp, pl, ls, x0, x3, x9, x10, x13, some (.ref da), x16, lds, vd, vn, v, rfl, i4, fit, len, dd.tr t4, fun l e => ⟨(nd l e).1.tr t4, (nd l e).2⟩, dv⟩
end
end AG
namespace AG
open PySem PySem.Spec PyProof.Rows L2
open NdefX (CellsAt startF slotAt)
section
variable {P : Program} {w : World} {K : PySem.W.Frag} {mg : Str → Option Value} {base : Heap} {c : Cs} {k : Nat} {f : Addr} {A : Around} {outer : List Env} {s : Shared} {H0 : Hp} {E : XK} {cL PL cA PA B S na sa : Addr} {ns : List Str} {st : List Thing} {n : Nat}
theorem br_ap4 (hn : n ≤ 500) (hr : Room k (lawX P w K mg base f cL A outer s H0 E).A) : PS (lawX P w K mg base f cL A outer s H0 E) (stAt lawA 3) (tFromTo (LM3 c PL PA B S na sa ns st n) (LEnd c PL PA B S na sa ns st (n + 1))) := by
  refine PS.by (ps_if (pt_cmpR op_eqC (pe_ix ix_dat (pv 11) pe_int (fun _ _ => rfl)) pe_str (nomark _)) (pss_one (ps_par3 (i := 6) (j := 7) (l := 5) rfl sc_law.nd rfl rfl rfl (by decide) (by decide) (by decide) rfl rfl rfl (pa_cons (pe_op op_cat (pv 6) (pe_lst (pa_cons (pv 5) pa_nil))) (pa_cons (pe_lst pa_nil) (pa_cons (pv 15) pa_nil))) rfl)) pss_nil) fun D σ H h => ?_
  obtain ⟨⟨Mu, Ch, vc, pp, pl, ls, x0, x3, x9, x10, x13, x14, x16, lds, vd, vn, vf, rfl, i, fit, len, dd, nd, df⟩, q⟩ := h
  refine ⟨_, rfl, Mu, _, _, 0, dd, rfl, due_first _, fun z dz => ?_⟩
  obtain rfl := dz.asStr
  unfold behindA at i
  cases hA : dueOf st ls lds with
  | inl e =>
    rw [hA] at dd df i
    refine ⟨rfl, fun z => absurd (V.str.inj z) (er_named e), fun _ => ⟨_, rfl, iteF (q _ _ ?_)⟩⟩
    exact ⟨Mu, Ch, vc, pp, pl, ls, vd, vf, .inl e, x0, x3, x9, x10, x13, x14, some vn, x16, rfl, i, fit, Nat.le_succ_of_le len, dd, df⟩
  | inr l =>
    rw [hA] at dd df i
    obtain ⟨dn, fl⟩ := nd l hA
    refine ⟨rfl, fun _ => ⟨_, rfl, iteT ?_⟩, fun z => absurd rfl z⟩
    obtain ⟨xs, hl, rl⟩ := i.pas
    have ll : xs.length ≤ 500 := by
      rw [rl.length, List.length_map]
      omega
    refine ⟨_, rfl, _, rfl, by show 1 ≤ sizeLine; decide, fun t6 n6 => ⟨pp, t6, xs, [vc], rfl, rfl, same_new n6 _ _ hl, upd_same, by show xs.length + 1 ≤ sizeLine; exact Nat.le_trans (by omega : xs.length + 1 ≤ 501) (by decide), fun p6 m6 => ?_⟩⟩
    have s5 := same_new (o := .lst [vc]) n6
    have i5 := i.same s5
    have d5 := dd.same s5
    have f5 := df.same s5
    have n5 := dn.same s5
    have hl5 := s5 _ _ hl
    generalize upd H t6 (.lst [vc]) = H5 at s5 i5 m6 d5 f5 n5 hl5 ⊢
    have s6 := same_new (o := .lst (xs ++ [vc])) m6
    have hp6 : upd H5 p6 (.lst (xs ++ [vc])) p6 = some (.lst (xs ++ [vc])) := upd_same
    have t6' : Tr Mu H5 (wi Mu p6) (upd H5 p6 (.lst (xs ++ [vc]))) := .add i5.wl (.ofSame s6) m6 (by rw [hp6]; exact fun z => nomatch z)
    obtain ⟨i6, o6, ne1, ne2, ne3⟩ := i5.more s6 m6 (by rw [hp6]; exact fun z => nomatch z)
    have d6 := d5.tr t6'
    have f6 := f5.tr t6'
    have n6' := n5.tr t6'
    have nl : LstD (wi Mu p6) (upd H5 p6 (.lst (xs ++ [vc]))) p6 ((ls.past ++ [ls.con]).map lawC) := by
      obtain ⟨xs2, hx2, r2⟩ := i6.pas
      obtain rfl : xs2 = xs := by
        cases hx2.symm.trans (s6 _ _ hl5)
        rfl
      refine ⟨_, hp6, ?_⟩
      rw [List.map_append]
      exact r2.app (.cons i6.con .nil)
    generalize upd H5 p6 (.lst (xs ++ [vc])) = H6 at s6 hp6 t6' i6 d6 f6 n6' nl ⊢
    refine ⟨Nat.zero_le _, fun p7 m7 => ?_⟩
    have s7 := same_new (o := .lst []) m7
    have hp7 : upd H6 p7 (.lst []) p7 = some (.lst []) := upd_same
    have t7 : Tr (wi Mu p6) H6 (wi (wi Mu p6) p7) (upd H6 p7 (.lst [])) := .add i6.wl (.ofSame s7) m7 (by rw [hp7]; exact fun z => nomatch z)
    obtain ⟨i7, o7, nf1, nf2, nf3⟩ := i6.more s7 m7 (by rw [hp7]; exact fun z => nomatch z)
    have n67 : p6 ≠ p7 := ne_of_none hp6 m7
    refine ⟨_, rfl, _, _, _, rfl, q _ _ ?_⟩
    refine ⟨wi (wi Mu p6) p7, Ch, vn, p6, p7, ⟨l, ls.past ++ [ls.con], []⟩, vd, vf, .inr (), x0, x3, x9, x10, x13, x14, some vn, x16, rfl, ?_, ⟨fl, fun x hx => ?_, fun x hx => (List.not_mem_nil hx).elim⟩, ?_, d6.tr t7, f6.tr t7⟩
    · exact i7.rebind (n6'.tr t7) (nl.at_ (same_at s7 nl.some_) t7) ⟨[], hp7, .nil⟩ ⟨o6.1, .inl o6.2⟩ o7 n67 ne3 nf3
    · rcases List.mem_append.mp hx with z | z
      · exact fit.pas x z
      · rw [List.mem_singleton.mp z]
        exact fit.con
    · show (ls.past ++ [ls.con]).length + 0 ≤ n + 1
      rw [List.length_append, List.length_singleton]
      omega
theorem br_apply (T : Txt w K mg c) (SE : Sees K mg c) (R : Exs P K mg c) (Z : Tbs K mg base cL PL cA PA) (hst : Stk st) (hn : n ≤ 500) (hr : Room k (lawX P w K mg base f cL A outer s H0 E).A) (hk : 20 ≤ k) : PSs (lawX P w K mg base f cL A outer s H0 E) lawA (tBr c PL PA B S na sa ns st n) := by
  have h1 := br_ap1 (PL := PL) (PA := PA) (B := B) (S := S) (na := na) (sa := sa) (ns := ns) (n := n) T hst hr hk
  have h2 := br_ap2 (PL := PL) (PA := PA) (B := B) (S := S) (na := na) (sa := sa) (ns := ns) (n := n) T hst hr hk
  have h3 := br_ap3 (PL := PL) (PA := PA) (B := B) (S := S) (na := na) (sa := sa) (ns := ns) (n := n) T SE R Z hst hn hr hk
  have h4 := br_ap4 (c := c) (PL := PL) (PA := PA) (B := B) (S := S) (na := na) (sa := sa) (ns := ns) (st := st) (n := n) hn hr
  have h5 : PSs (lawX P w K mg base f cL A outer s H0 E) lawA _ := pss_cons h1 (pss_cons h2 (pss_cons h3 (pss_one h4)))
  refine PSs.by h5 fun D σ H h => ?_
  obtain ⟨_, h0, q⟩ := h
  exact ⟨h0, fun σ1 H1 h1 => ⟨h1, fun σ2 H2 h2 => ⟨h2, fun σ3 H3 h3 => ⟨h3, q⟩⟩⟩⟩
/-- the state's names -/
structure LP where
  B : Addr
  S : Addr
  na : Addr
  sa : Addr
  ns : List Str
  st : List Thing
  n : Nat
structure LP.Ok (p : LP) : Prop where
  stk : Stk p.st
  le : p.n ≤ 500
theorem PSs.ex {X : Cx} {b : List Stmt} {α : Type} {p : α → Prop} {t : α → TS} (h : ∀ a, p a → PSs X b (t a)) : PSs X b (fun D σ H => ∃ a, p a ∧ t a D σ H) := ⟨fun pins s σ H D I ⟨a, ha, q⟩ => (h a ha).run pins s σ H D I q⟩
abbrev LP.at_ (p : LP) (c : Cs) (PL PA : Addr) : L2.St → Hp → Prop := LAt c PL PA p.B p.S p.na p.sa p.ns p.st p.n
abbrev LP.end_ (p : LP) (c : Cs) (PL PA : Addr) : L2.St → Hp → Prop := LEnd c PL PA p.B p.S p.na p.sa p.ns p.st (p.n + 1)
def tBrP (c : Cs) (PL PA : Addr) : TS := fun D σ H => ∃ p : LP, p.Ok ∧ tFromTo (p.at_ c PL PA) (p.end_ c PL PA) D σ H
theorem brP_undo (T : Txt w K mg c) (SE : Sees K mg c) (R : Exs P K mg c) (Z : Tbs K mg base cL PL cA PA) (hr : Room k (lawX P w K mg base f cL A outer s H0 E).A) (hk : 20 ≤ k) : PSs (lawX P w K mg base f cL A outer s H0 E) lawU (tBrP c PL PA) :=
  PSs.ex fun p hp => PSs.by (br_undo (B := p.B) (S := p.S) (na := p.na) (sa := p.sa) (ns := p.ns) (st := p.st) (n := p.n) T SE R Z hr (by omega)) fun D σ H h => ⟨hp.le, h⟩
theorem brP_redo (T : Txt w K mg c) (SE : Sees K mg c) (R : Exs P K mg c) (Z : Tbs K mg base cL PL cA PA) (hr : Room k (lawX P w K mg base f cL A outer s H0 E).A) (hk : 20 ≤ k) : PSs (lawX P w K mg base f cL A outer s H0 E) lawR (tBrP c PL PA) :=
  PSs.ex fun p hp => PSs.by (br_redo (B := p.B) (S := p.S) (na := p.na) (sa := p.sa) (ns := p.ns) (st := p.st) (n := p.n) T SE R Z hr (by omega)) fun D σ H h => ⟨hp.le, h⟩
theorem brP_apply (T : Txt w K mg c) (SE : Sees K mg c) (R : Exs P K mg c) (Z : Tbs K mg base cL PL cA PA) (hr : Room k (lawX P w K mg base f cL A outer s H0 E).A) (hk : 20 ≤ k) : PSs (lawX P w K mg base f cL A outer s H0 E) lawA (tBrP c PL PA) :=
  PSs.ex fun p hp => PSs.by (br_apply (B := p.B) (S := p.S) (na := p.na) (sa := p.sa) (ns := p.ns) (st := p.st) (n := p.n) T SE R Z hp.stk hp.le hr hk) fun D σ H h => ⟨hp.le, h⟩
end
end AG
namespace AG
open PySem PySem.Spec PyProof.Rows L2
open NdefX (CellsAt startF slotAt)
theorem sm_due {α : Type} (r : Er ⊕ α) : Sm 3 (dueD r) := by
  have two : ∀ (a b : PyData), Sm 2 a → Sm 2 b → Sm 3 (.tuple [a, b]) := fun a b ha hb => ⟨by show 2 ≤ 100; decide, fun d hd => by
    rcases List.mem_cons.mp hd with z | z
    · rw [z]
      exact ha
    · rw [List.mem_singleton.mp z]
      exact hb⟩
  have one : ∀ (a : PyData), Sm 1 a → Sm 2 (.tuple [a]) := fun a ha => ⟨by show 1 ≤ 100; decide, fun d hd => by
    rw [List.mem_singleton.mp hd]
    exact ha⟩
  cases r with
  | inr a => exact two _ _ trivial trivial
  | inl e =>
    cases e with
    | nothing => exact two _ _ trivial ⟨by show 0 ≤ 100; decide, fun d hd => (List.not_mem_nil hd).elim⟩
    | _ => exact two _ _ trivial (one _ trivial)
theorem sm_three {α : Type} (r : Er ⊕ α) (i j : Int) : Sm 15 (.list [dueD r, .tuple [.int i, .int j], .bool false]) := ⟨by show 3 ≤ 100; decide, fun d hd => by
  rcases List.mem_cons.mp hd with z | z
  · rw [z]
    exact (sm_due r).mono (by decide)
  · rcases List.mem_cons.mp z with z | z
    · rw [z]
      refine ⟨by show 2 ≤ 100; decide, fun e he => ?_⟩
      rcases List.mem_cons.mp he with y | y
      · rw [y]
        exact trivial
      · rw [List.mem_singleton.mp y]
        exact trivial
    · rw [List.mem_singleton.mp z]
      exact trivial⟩
section
variable {P : Program} {w : World} {K : PySem.W.Frag} {mg : Str → Option Value} {base : Heap} {c : Cs} {k : Nat} {f : Addr} {A : Around} {outer : List Env} {s : Shared} {H0 : Hp} {E : XK} {cL PL cA PA B S na sa : Addr} {ns : List Str} {st : List Thing} {n : Nat}
/-- what is told stays: a turn's end is looked at -/
theorem law_look (T : Txt w K mg c) (hr : Room k (lawX P w K mg base f cL A outer s H0 E).A) (hk : 20 ≤ k) : PS (lawX P w K mg base f cL A outer s H0 E) (stAt lawFor 2) (fun D σ H => ∃ p : LP, p.Ok ∧ tFromTo (p.end_ c PL PA) (LAt c PL PA p.B p.S p.na p.sa p.ns p.st (p.n + 1)) D σ H) := by
  refine PS.by (ps_if (PW.pt (pw_or (pt_not (pt_val (dcall (ok__law_like T 15) hr (by omega) pass0 (pa_cons (pe_lst (pa_cons (pv 12) (pa_cons (mcall0 (ok_Shelf_history T) hr (by omega) pass0 (pv 8)) (pa_cons (pget (ok_Shelf_busy T) hr (by omega) (pv 8)) pa_nil)))) (pa_cons (pe_lst (pa_cons (pv 11) (pa_cons (pe_tup (pa_cons (len1 T.n_len (pa_cons (pv 6) pa_nil)) (pa_cons (len1 T.n_len (pa_cons (pv 7) pa_nil)) pa_nil))) (pa_cons pe_bl pa_nil)))) pa_nil))))) (pw_or1 (pt_not (pt_val (dcall (ok__law_shelf_is T) hr (by omega) pass0 (pa_cons (pv 8) (pa_cons (pv 5) pa_nil)))))))) (pss_one (ps_ret pe_bl)) pss_nil) fun D σ H h => ?_
  obtain ⟨⟨B, S, na, sa, ns, st, n⟩, ⟨hst, hn⟩, ⟨Mu, Ch, vc, pp, pl, ls, vd, vf, r, x0, x3, x9, x10, x13, x14, x15, x16, rfl, i, fit, len, dd, df⟩, q⟩ := h
  obtain ⟨dx, d, p, f2, x, hS⟩ := shl_ins i.shl
  obtain ⟨ps, hp, rp⟩ := i.pas
  obtain ⟨fs, hl, rl⟩ := i.lat
  have lps : ps.length = ls.past.length := by rw [rp.length, List.length_map]
  have lfs : fs.length = ls.fut.length := by rw [rl.length, List.length_map]
  refine ⟨_, rfl, _, rfl, S, dx, _, rfl, hS, rfl, Mu, S, 4, ls, rfl, i.wl, i.shl, fun vh H1 s1 dh => ?_⟩
  have hS1 := s1 _ _ hS
  refine ⟨_, rfl, S, dx, _, rfl, hS1, S, dx, _, .bl false, rfl, hS1, rfl, by show 3 ≤ sizeLine; decide, fun a1 m1 => ?_⟩
  have s2 := same_new (o := .lst [vf, vh, .bl false]) m1
  have e1 : Dat Mu (upd H1 a1 (.lst [vf, vh, .bl false])) (.ref a1) (.list [dueD r, .tuple [.int (ls.past.length : Nat), .int (ls.fut.length : Nat)], .bool false]) :=
    .lst (fun m => (i.wl.same s1) a1 m m1) upd_same (.cons ((df.same s1).same s2) (.cons (dh.same s2) (.cons (.bl _) .nil)))
  generalize upd H1 a1 (.lst [vf, vh, .bl false]) = H2 at s2 e1 ⊢
  have s12 := s1.trans s2
  refine ⟨_, rfl, _, rfl, ps.length, .inl ⟨_, SqL.of (s12 _ _ hp), rfl⟩, _, rfl, fs.length, .inl ⟨_, SqL.of (s12 _ _ hl), rfl⟩, by show 2 ≤ sizeLine; decide, fun a2 m2 => ?_⟩
  have s3 := same_new (o := .tup [V.int (ps.length : Nat), .int (fs.length : Nat)]) m2
  have e2 : Dat Mu (upd H2 a2 (.tup [V.int (ps.length : Nat), .int (fs.length : Nat)])) (.ref a2) (.tuple [.int (ls.past.length : Nat), .int (ls.fut.length : Nat)]) := by
    rw [← lps, ← lfs]
    exact .tup (fun m => (i.wl.same s12) a2 m m2) upd_same (.cons (.int _) (.cons (.int _) .nil))
  generalize upd H2 a2 (.tup [V.int (ps.length : Nat), .int (fs.length : Nat)]) = H3 at s3 e2 ⊢
  have s13 := s12.trans s3
  refine ⟨by show 3 ≤ sizeLine; decide, fun a3 m3 => ?_⟩
  have s4 := same_new (o := .lst [vd, .ref a2, .bl false]) m3
  have e3 : Dat Mu (upd H3 a3 (.lst [vd, .ref a2, .bl false])) (.ref a3) (.list [dueD r, .tuple [.int (ls.past.length : Nat), .int (ls.fut.length : Nat)], .bool false]) :=
    .lst (fun m => (i.wl.same s13) a3 m m3) upd_same (.cons ((dd.same s13).same s4) (.cons (e2.same s4) (.cons (.bl _) .nil)))
  have e14 := (e1.same s3).same s4
  generalize upd H3 a3 (.lst [vd, .ref a2, .bl false]) = H4 at s4 e3 e14 ⊢
  have s14 := s13.trans s4
  refine ⟨.ref a1, .ref a3, rfl, lk_dat (sm_three r _ _) e14 e3, fun H5 s5 => ⟨_, rfl, iteF ?_⟩⟩
  have s15 := s14.trans s5
  have i5 := i.same s15
  obtain ⟨dx5, d5, p5, f5, x5, pq5, fq5, hS5, _, _, _, _, _, _, _, _, hc5, _⟩ := i5.shl
  refine ⟨_, rfl, _, rfl, Mu, S, d5, ls.con, vc, rfl, i5.wl, ⟨dx5, p5, f5, x5, false, 4, hS5, hc5⟩, i5.con, fit.con.ok, fit.con.nd, fit.con.cl, Nat.le_trans fit.con.le (by decide), fun H6 s6 => ⟨_, rfl, iteF (q _ _ ?_)⟩⟩
  exact ⟨Mu, Ch, vc, pp, pl, ls, x0, x3, x9, x10, some vd, some vf, x13, x14, x15, x16, rfl, i5.same s6, fit, len⟩
end
end AG
namespace AG
open PySem PySem.Spec PyProof.Rows L2
open NdefX (CellsAt startF slotAt)
/-! ### the beginning -/
def TblS (PL PA : Addr) (H : Hp) : Prop := H PL = some (.tbl #[]) ∧ H PA = some (.tbl #[])
def Mu0 (PL PA B : Addr) : Mut1 := fun b => b = B ∨ b = PL ∨ b = PA
section
variable {PL PA B : Addr} {H H' : Hp}
theorem TblS.kp {x : Addr} {vs : List V} (h : TblS PL PA H) (hx : H x = some (.lst vs)) (k : Kp (fun b => b = x) H H') : TblS PL PA H' :=
  ⟨k.at_ _ _ (fun z => by have h1 := h.1; rw [show PL = x from z, hx] at h1; exact nomatch h1) h.1, k.at_ _ _ (fun z => by have h1 := h.2; rw [show PA = x from z, hx] at h1; exact nomatch h1) h.2⟩
theorem TblS.same (h : TblS PL PA H) (s : Same H H') : TblS PL PA H' := ⟨s _ _ h.1, s _ _ h.2⟩
theorem TblS.wl (h : TblS PL PA H) (hb : H B ≠ none) : Wl (Mu0 PL PA B) H := fun b m => by
  rcases m with z | z | z <;> rw [z]
  · exact hb
  · rw [h.1]
    exact nofun
  · rw [h.2]
    exact nofun
theorem Bag.lst_ {Mu : Mut1} (b : Bag Mu H B) : ∃ vs, H B = some (.lst vs) := let ⟨_, L, cells, i, x, y, n, h1, _⟩ := b; ⟨_, h1⟩
end
section
variable (K : PySem.W.Frag) (c : Cs) (PL PA : Addr)
def I0 (σ : L2.St) (H : Hp) : Prop := ∃ (a : Addr) (cells : List Int), σ = L2.start lawN [.ref a] ∧ SqL K H a (cells.map V.int) ∧ cells.length ≤ 63 ∧ TblS PL PA H
def J0 (σ : L2.St) (H : Hp) : Prop := ∃ x0 B, σ = [x0, some (.ref B), none, none, none, none, none, none, none, none, none, none, none, none, none, none, none] ∧ TblS PL PA H ∧ Bag (Mu0 PL PA B) H B
def J1 (σ : L2.St) (H : Hp) : Prop := ∃ x0 B na wa ns ws, σ = [x0, some (.ref B), some (.ref na), some (.ref wa), none, none, none, none, none, none, none, none, none, none, none, none, none] ∧ TblS PL PA H ∧ Bag (Mu0 PL PA B) H B ∧ Wds (Mu0 PL PA B) H na ns ∧ Wds (Mu0 PL PA B) H wa ws
def J2 (σ : L2.St) (H : Hp) : Prop := ∃ x0 x3 B na sa pc pp pl ns st, σ = [x0, some (.ref B), some (.ref na), x3, some (.ref sa), some (.ref pc), some (.ref pp), some (.ref pl), none, none, none, none, none, none, none, none, none] ∧ TblS PL PA H ∧ Stk st ∧
  Bag (wi (wi (Mu0 PL PA B) pp) pl) H B ∧ Wds (wi (wi (Mu0 PL PA B) pp) pl) H na ns ∧ Dat (wi (wi (Mu0 PL PA B) pp) pl) H (.ref sa) (.list (st.map Thing.d)) ∧ Dat (wi (wi (Mu0 PL PA B) pp) pl) H (.ref pc) (.list []) ∧ H pp = some (.lst []) ∧ H pl = some (.lst []) ∧ pp ≠ pl ∧ B ≠ pp ∧ B ≠ pl
end
section
variable {P : Program} {w : World} {K : PySem.W.Frag} {mg : Str → Option Value} {base : Heap} {c : Cs} {k : Nat} {f : Addr} {A : Around} {outer : List Env} {s : Shared} {H0 : Hp} {E : XK} {cL PL cA PA : Addr}
theorem law_s0 (T : Txt w K mg c) (hr : Room k (lawX P w K mg base f cL A outer s H0 E).A) (hk : 20 ≤ k) : PS (lawX P w K mg base f cL A outer s H0 E) (stAt (defBody s_law) 0) (tFromTo (I0 K PL PA) (J0 PL PA)) := by
  refine PS.by (ps_set (i := 1) sc_law.nd rfl (Or.inr rfl) (dcall (ok__law_bag T) hr (by omega) pass0 (pa_cons (pv 0) pa_nil))) fun D σ H h => ?_
  obtain ⟨⟨a, cells, rfl, ha, hl, ht⟩, q⟩ := h
  refine ⟨_, rfl, a, cells, rfl, ha, hl, fun B H1 s1 nB ⟨L, nLB, nL, hL, hB⟩ => q _ _ ⟨_, B, rfl, ht.same s1, .inl rfl, L, cells, 0, 0, 4932, 0, hB, ?_, hL, by decide, by decide, by decide, by decide⟩⟩
  rintro (z | z | z)
  · exact nLB z
  · rw [z, ht.1] at nL
    cases nL
  · rw [z, ht.2] at nL
    cases nL
theorem law_s1 (T : Txt w K mg c) (hr : Room k (lawX P w K mg base f cL A outer s H0 E).A) (hk : 20 ≤ k) : PS (lawX P w K mg base f cL A outer s H0 E) (stAt (defBody s_law) 1) (tFromTo (J0 PL PA) (J1 PL PA)) := by
  refine PS.by (ps_asg (pe_tup (pa_cons (dcall (ok__law_names T) hr (by omega) pass0 (pa_cons (pv 1) (pa_cons pe_int pa_nil))) (pa_cons (dcall (ok__law_names T) hr (by omega) pass0 (pa_cons (pv 1) (pa_cons pe_int pa_nil))) pa_nil))) (pg_tup rfl (pgs_cons (pg_name (i := 2) sc_law.nd rfl (Or.inr rfl)) (pgs_cons (pg_name (i := 3) sc_law.nd rfl (Or.inl rfl)) pgs_nil)))) fun D σ H h => ?_
  obtain ⟨⟨x0, B, rfl, ht, b⟩, q⟩ := h
  have wl := ht.wl b.some_
  have mB := b.mu
  refine ⟨_, rfl, Mu0 PL PA B, B, 5, rfl, wl, b, by decide, by decide, fun ns na H1 n1 k1 b1 _ => ?_⟩
  obtain ⟨vs0, hb0⟩ := b.lst_
  have ht1 := ht.kp hb0 k1
  refine ⟨_, rfl, Mu0 PL PA B, B, 2, rfl, ht1.wl b1.some_, b1, by decide, by decide, fun ws wa H2 n2 k2 b2 _ => ?_⟩
  obtain ⟨vs1, hb1⟩ := b1.lst_
  have ht2 := ht1.kp hb1 k2
  refine ⟨by show 2 ≤ sizeLine; decide, fun p3 m3 => ?_⟩
  have s3 := same_new (o := .tup [V.ref na, .ref wa]) m3
  refine ⟨p3, _, rfl, SqT.of upd_same, rfl, _, _, rfl, _, _, rfl, rfl, q _ _ ⟨x0, B, na, wa, ns, ws, rfl, ht2.same s3, b2.same s3, (n1.keep (kpB mB k2)).keep (.ofSame s3), n2.keep (.ofSame s3)⟩⟩
theorem law_s2 (T : Txt w K mg c) (hr : Room k (lawX P w K mg base f cL A outer s H0 E).A) (hk : 20 ≤ k) : PS (lawX P w K mg base f cL A outer s H0 E) (stAt (defBody s_law) 2) (tFromTo (J1 PL PA) (J2 PL PA)) := by
  refine PS.by (ps_asg (pe_tup (pa_cons (dcall (ok__law_entries T) hr (by omega) pass0 (pa_cons (pv 1) (pa_cons (pv 2) (pa_cons (pv 3) (pa_cons pe_int pa_nil))))) (pa_cons (pe_lst pa_nil) (pa_cons (pe_lst pa_nil) (pa_cons (pe_lst pa_nil) pa_nil))))) (pg_tup rfl (pgs_cons (pg_name (i := 4) sc_law.nd rfl (Or.inr rfl)) (pgs_cons (pg_name (i := 5) sc_law.nd rfl (Or.inl rfl)) (pgs_cons (pg_name (i := 6) sc_law.nd rfl (Or.inl rfl)) (pgs_cons (pg_name (i := 7) sc_law.nd rfl (Or.inl rfl)) pgs_nil)))))) fun D σ H h => ?_
  obtain ⟨⟨x0, B, na, wa, ns, ws, rfl, ht, b, nn, nw⟩, q⟩ := h
  have wl := ht.wl b.some_
  have mB := b.mu
  refine ⟨_, rfl, _, rfl, _, rfl, Mu0 PL PA B, B, na, wa, ns, ws, 6, rfl, wl, b, nn, nw, by decide, fun st sa H1 el ok k1 b1 d1 _ => ?_⟩
  obtain ⟨vs0, hb0⟩ := b.lst_
  have ht1 := ht.kp hb0 k1
  have wl1 := ht1.wl b1.some_
  have n1 := nn.keep (kpB mB k1)
  refine ⟨Nat.zero_le _, fun pc m2 => ⟨Nat.zero_le _, fun pp m3 => ⟨Nat.zero_le _, fun pl m4 => ⟨by show 4 ≤ sizeLine; decide, fun p5 m5 => ?_⟩⟩⟩⟩
  have s2 := same_new (o := .lst []) m2
  have hc2 : upd H1 pc (.lst []) pc = some (.lst []) := upd_same
  have b2 := b1.same s2
  have ht2 := ht1.same s2
  have wl2 := ht2.wl b2.some_
  have c2 : Dat (Mu0 PL PA B) (upd H1 pc (.lst [])) (.ref pc) (.list []) := .lst (fun m => wl1 pc m m2) hc2 .nil
  have d2 := d1.same s2
  have n2 := n1.keep (.ofSame s2)
  generalize upd H1 pc (.lst []) = H2 at s2 hc2 b2 ht2 wl2 c2 d2 n2 m3 m4 m5 ⊢
  have s3 := same_new (o := .lst []) m3
  have hp3 : upd H2 pp (.lst []) pp = some (.lst []) := upd_same
  have t3 : Tr (Mu0 PL PA B) H2 (wi (Mu0 PL PA B) pp) (upd H2 pp (.lst [])) := .add wl2 (.ofSame s3) m3 (by rw [hp3]; exact nofun)
  have b3 := b2.at_ (same_at s3 b2.some_) t3
  have ht3 := ht2.same s3
  have c3 := c2.tr t3
  have d3 := d2.tr t3
  have n3 := (n2.grow t3.new).keep (t3.kp.wide t3.up)
  have nB3 : B ≠ pp := fun z => b2.some_ (z ▸ m3)
  have wl3 := t3.wl
  generalize upd H2 pp (.lst []) = H3 at s3 hp3 t3 b3 ht3 c3 d3 n3 wl3 m4 m5 ⊢
  have s4 := same_new (o := .lst []) m4
  have hl4 : upd H3 pl (.lst []) pl = some (.lst []) := upd_same
  have t4 : Tr (wi (Mu0 PL PA B) pp) H3 (wi (wi (Mu0 PL PA B) pp) pl) (upd H3 pl (.lst [])) := .add wl3 (.ofSame s4) m4 (by rw [hl4]; exact nofun)
  have b4 := b3.at_ (same_at s4 b3.some_) t4
  have ht4 := ht3.same s4
  have c4 := c3.tr t4
  have d4 := d3.tr t4
  have n4 := (n3.grow t4.new).keep (t4.kp.wide t4.up)
  have nB4 : B ≠ pl := fun z => b3.some_ (z ▸ m4)
  have np4 : pp ≠ pl := ne_of_none hp3 m4
  have hp4 := s4 _ _ hp3
  generalize upd H3 pl (.lst []) = H4 at s4 hl4 t4 b4 ht4 c4 d4 n4 hp4 m5 ⊢
  have s5 := same_new (o := .tup [V.ref sa, .ref pc, .ref pp, .ref pl]) m5
  refine ⟨p5, _, rfl, SqT.of upd_same, rfl, _, _, rfl, _, _, rfl, _, _, rfl, _, _, rfl, rfl, q _ _ ?_⟩
  exact ⟨x0, _, B, na, sa, pc, pp, pl, ns, st, rfl, ht4.same s5, ⟨ok, by omega, by omega⟩, b4.same s5, n4.keep (.ofSame s5), d4.same s5, c4.same s5, s5 _ _ hp4, s5 _ _ hl4, np4, nB3, nB4⟩
theorem tabL_nil {Mu : Mut1} {H : Hp} {P : Addr} {q : Str} (h : H P = some (.tbl #[])) : TabL Mu H P q := ⟨#[], h, True.intro, fun pos cv hc => by
  have z : codeAmong pos [] = some cv := hc
  simp [codeAmong] at z⟩
theorem law_s3 (T : Txt w K mg c) (nLA : PL ≠ PA) (hr : Room k (lawX P w K mg base f cL A outer s H0 E).A) (hk : 20 ≤ k) : PS (lawX P w K mg base f cL A outer s H0 E) (stAt (defBody s_law) 3) (fun D σ H => J2 PL PA σ H ∧ ∀ σ' H' p, LP.Ok p → p.n = 0 → p.at_ c PL PA σ' H' → D.nx σ' H') := by
  obtain ⟨fS, fdS, gS, MS, FS, kS⟩ := ok_Shelf (P := P) (base := base) T
  refine PS.by (ps_set (i := 8) sc_law.nd rfl (Or.inr rfl) (pe_makeN0 MS FS (hr.mono (by omega)) rfl T.c_Shelf.at_ kS pass0 (pk_cons pe_int pk_nil))) fun D σ H h => ?_
  obtain ⟨⟨x0, x3, B, na, sa, pc, pp, pl, ns, st, rfl, ht, hst, b, nn, ds, dc, hp, hl, n1, n2, n3⟩, q⟩ := h
  refine ⟨rfl, rfl, fun S dx nS nD neD => ?_⟩
  have sa0 : Same H (upd (upd H dx (.own S)) S (.ins c.Shelf dx [])) := fun b o e => by
    rw [upd_ne (ne_of_none e nS), upd_ne (ne_of_none e nD)]
    exact e
  refine ⟨S, dx, 4, rfl, by decide, by decide, upd_same, fun H1 d p f2 h2 k1 hS1 nd np nf nh ne1 hd1 hp1 hf1 hh1 => ⟨rfl, ?_⟩⟩
  have s1 : Same H H1 := fun b o e => k1.at_ b o (ne_of_none e nS) (sa0 b o e)
  have fr : ∀ {b : Addr}, upd (upd H dx (.own S)) S (.ins c.Shelf dx []) b = none → H b = none := fun n => sa0.free n
  have wl : Wl (wi (wi (Mu0 PL PA B) pp) pl) H := fun y m => by
    rcases m with (m | z) | z
    · exact ht.wl b.some_ _ m
    · rw [show y = pp from z, hp]
      exact nofun
    · rw [show y = pl from z, hl]
      exact nofun
  have t : Tr (wi (wi (Mu0 PL PA B) pp) pl) H (fun b => wi (wi (Mu0 PL PA B) pp) pl b ∨ b = S ∨ b = p ∨ b = f2) H1 := by
    refine ⟨fun b m => ?_, fun b m => .inl m, fun b m => m.imp id fun z => ?_, .ofSame s1⟩
    · rcases m with m | z | z | z
      · cases e : H b with
        | none => exact absurd e (wl b m)
        | some o =>
          rw [s1 _ _ e]
          exact nofun
      · rw [z, show H1 S = _ from hS1]
        exact nofun
      · rw [z, hp1]
        exact nofun
      · rw [z, hf1]
        exact nofun
    · rcases z with z | z | z <;> rw [z]
      · exact nS
      · exact fr np
      · exact fr nf
  have nMu : ∀ {b : Addr}, H b = none → b ≠ S → b ≠ p → b ≠ f2 → ¬ (wi (wi (Mu0 PL PA B) pp) pl b ∨ b = S ∨ b = p ∨ b = f2) := fun n a1 a2 a3 m => by
    rcases m with m | z | z | z
    · exact wl _ m n
    · exact a1 z
    · exact a2 z
    · exact a3 z
  have dNe : ∀ {b : Addr}, H1 b = some (.dK []) → b ≠ S ∧ b ≠ p ∧ b ≠ f2 := fun {y} e => by
    refine ⟨fun z => ?_, fun z => ?_, fun z => ?_⟩
    · rw [z] at e
      cases e.symm.trans (show H1 S = _ from hS1)
    · rw [z] at e
      cases e.symm.trans hp1
    · rw [z] at e
      cases e.symm.trans hf1
  obtain ⟨d1, d2, d3⟩ := dNe (b := d) hd1
  obtain ⟨g1, g2, g3⟩ := dNe (b := h2) hh1
  refine q _ _ ⟨B, S, na, sa, ns, st, 0⟩ ⟨hst, Nat.zero_le _⟩ rfl ?_
  refine ⟨fun b => wi (wi (Mu0 PL PA B) pp) pl b ∨ b = S ∨ b = p ∨ b = f2, fun b => b = S ∨ b = p ∨ b = f2, .ref pc, pp, pl, ⟨[], [], []⟩, x0, x3, none, none, none, none, none, none, none, none, rfl, ?_, ?_, Nat.le_refl _⟩
  · refine ⟨t.wl, fun b m => ?_, b.at_ (same_at s1 b.some_) t, (nn.grow t.new).keep (t.kp.wide t.up), ds.tr t, dc.tr t, ⟨[], s1 _ _ hp, .nil⟩, ⟨[], s1 _ _ hl, .nil⟩, ⟨dx, d, p, f2, h2, [], [], hS1, .inr (.inl rfl), .inr (.inr (.inl rfl)), .inr (.inr (.inr rfl)), ne1, hp1, hf1, hh1, nMu (fr nh) g1 g2 g3, ⟨nMu (fr nd) d1 d2 d3, [], hd1, .nil⟩, .nil, .nil⟩,
      ⟨dx, d, p, f2, h2, false, 4, hS1, .inl rfl, .inr (.inl rfl), .inr (.inr rfl)⟩, fun b hb => ?_, tabL_nil (s1 _ _ ht.1), tabL_nil (s1 _ _ ht.2), n1, n2, n3, nLA⟩
    · exact t.wl b (.inr m)
    · have m1 : wi (wi (Mu0 PL PA B) pp) pl b := by
        rcases hb with z | z | z | z | z
        · exact .inl (.inl (.inl z))
        · exact .inl (.inr z)
        · exact .inr z
        · exact .inl (.inl (.inr (.inl z)))
        · exact .inl (.inl (.inr (.inr z)))
      refine ⟨fun z => wl b m1 ?_, .inl m1⟩
      rcases z with z | z | z <;> rw [z]
      · exact nS
      · exact fr np
      · exact fr nf
  · exact ⟨⟨fun _ h => (List.not_mem_nil h).elim, .nil, fun _ h => (List.not_mem_nil h).elim, Nat.zero_le _⟩, fun _ h => (List.not_mem_nil h).elim, fun _ h => (List.not_mem_nil h).elim⟩
end
end AG
namespace AG
open PySem PySem.Spec PyProof.Rows L2
open NdefX (CellsAt startF slotAt)
section
variable {P : Program} {w : World} {K : PySem.W.Frag} {mg : Str → Option Value} {base : Heap} {c : Cs} {k : Nat} {f : Addr} {A : Around} {outer : List Env} {s : Shared} {H0 : Hp} {E : XK} {cL PL cA PA : Addr}
theorem LAt.moved {B S na sa : Addr} {ns : List Str} {st : List Thing} {n : Nat} {σ : L2.St} {H : Hp} {v : V} (h : LAt c PL PA B S na sa ns st n σ H) : LAt c PL PA B S na sa ns st n (σ.set 9 (some v)) H ∧ LAt c PL PA B S na sa ns st n (σ.set 10 (some v)) H := by
  obtain ⟨Mu, Ch, vc, pp, pl, ls, x0, x3, x9, x10, x11, x12, x13, x14, x15, x16, rfl, r⟩ := h
  exact ⟨⟨Mu, Ch, vc, pp, pl, ls, x0, x3, _, x10, x11, x12, x13, x14, x15, x16, rfl, r⟩, ⟨Mu, Ch, vc, pp, pl, ls, x0, x3, x9, _, x11, x12, x13, x14, x15, x16, rfl, r⟩⟩
theorem LAt.bag {B S na sa : Addr} {ns : List Str} {st : List Thing} {n : Nat} {σ : L2.St} {H : Hp} (h : LAt c PL PA B S na sa ns st n σ H) : σ[1]? = some (some (.ref B)) ∧ ∃ Mu, Bag Mu H B ∧ ∀ H', Kp (fun b => b = B) H H' → Bag Mu H' B → LAt c PL PA B S na sa ns st n σ H' := by
  obtain ⟨Mu, Ch, vc, pp, pl, ls, x0, x3, x9, x10, x11, x12, x13, x14, x15, x16, rfl, i, r⟩ := h
  exact ⟨rfl, Mu, i.bag, fun H' k b => ⟨Mu, Ch, vc, pp, pl, ls, x0, x3, x9, x10, x11, x12, x13, x14, x15, x16, rfl, i.drawn k b, r⟩⟩
theorem LAt.slot10 {B S na sa : Addr} {ns : List Str} {st : List Thing} {n : Nat} {σ : L2.St} {H : Hp} {v : V} (h : LAt c PL PA B S na sa ns st n σ H) : (σ.set 10 (some v))[10]? = some (some v) := by
  obtain ⟨Mu, Ch, vc, pp, pl, ls, x0, x3, x9, x10, x11, x12, x13, x14, x15, x16, rfl, r⟩ := h
  rfl
theorem law_s4 (T : Txt w K mg c) (SE : Sees K mg c) (R : Exs P K mg c) (Z : Tbs K mg base cL PL cA PA) (hr : Room k (lawX P w K mg base f cL A outer s H0 E).A) (hk : 20 ≤ k) : PS (lawX P w K mg base f cL A outer s H0 E) (stAt (defBody s_law) 4) (fun D σ H => ∃ p : LP, p.Ok ∧ p.n = 0 ∧ p.at_ c PL PA σ H ∧ ∀ σ' H', D.nx σ' H') := by
  refine PS.by (ps_for (passes_of rfl) rfl (pi_range1 (by rfl) T.n_range (pa_cons (pe_op op_add pe_int (dcall (ok__law_pull T) hr (by omega) pass0 (pa_cons (pv 1) (pa_cons pe_int pa_nil)))) pa_nil)) (pg_name (i := 9) sc_law.nd rfl (Or.inl rfl)) (pss_cons (ps_set (i := 10) sc_law.nd rfl (Or.inl rfl) (dcall (ok__law_pull T) hr (by omega) pass0 (pa_cons (pv 1) (pa_cons pe_int pa_nil))))
      (pss_cons (ps_if (pt_cmpR op_eqC (pv 10) pe_int (nomark _)) (brP_undo T SE R Z hr hk) (pss_one (ps_if (pt_cmpR op_eqC (pv 10) pe_int (nomark _)) (brP_redo T SE R Z hr hk) (brP_apply T SE R Z hr hk)))) (pss_one (law_look (PL := PL) (PA := PA) T hr hk))))) fun D σ H h => ?_
  obtain ⟨⟨B, S, na, sa, ns, st, n⟩, ⟨hst, hn⟩, rfl, h0, q⟩ := h
  obtain ⟨hB, Mu, bg, go⟩ := h0.bag
  refine ⟨_, hB, Mu, B, 18, rfl, bg, by decide, by decide, fun r1 H1 r10 r11 k1 b1 => ?_⟩
  obtain ⟨m, rfl⟩ := Int.eq_ofNat_of_zero_le r10
  have a1 := go H1 k1 b1
  refine ⟨_, _, rfl, rfl, ((2 + m : Nat) : Int), (by show [V.int (2 + (m : Int))] = [V.int ((2 + m : Nat) : Int)]; rw [Int.natCast_add]; rfl), by omega, by omega, ?_⟩
  refine for_it (walk_range (lo := 0) (n := 2 + m)) (fun i σ Hj => LAt c PL PA B S na sa ns st i σ Hj) a1 (fun _ _ _ _ _ => trivial) ?_ fun σ Hj _ => q σ Hj
  rintro i x0 σ Hj' Hj hi aj ⟨rfl, rfl⟩
  have aj := (LAt.moved (v := .int (0 + (i : Int))) aj).1
  obtain ⟨hB2, Mu2, bg2, go2⟩ := aj.bag
  refine ⟨_, hB2, Mu2, B, 6, rfl, bg2, by decide, by decide, fun r2 H2 r20 r21 k2 b2 => ?_⟩
  have a2 := go2 H2 k2 b2
  have s10 := a2.slot10 (v := .int r2)
  have a3 := (LAt.moved (v := .int r2) a2).2
  have ok : LP.Ok ⟨B, S, na, sa, ns, st, i⟩ := ⟨hst, by show i ≤ 500; omega⟩
  have br : ∀ (D2 : L2.Ends) (N : L2.St → Hp → Prop), (∀ σ' H', LEnd c PL PA B S na sa ns st (i + 1) σ' H' → N σ' H') → tBrP c PL PA { D2 with nx := N } _ H2 := fun D2 N hN => ⟨⟨B, S, na, sa, ns, st, i⟩, ok, a3, hN⟩
  have look : ∀ σ' H', LEnd c PL PA B S na sa ns st (i + 1) σ' H' → (fun D σ H => ∃ p : LP, p.Ok ∧ tFromTo (p.end_ c PL PA) (LAt c PL PA p.B p.S p.na p.sa p.ns p.st (p.n + 1)) D σ H) { D with nx := fun σ Hj => LAt c PL PA B S na sa ns st (i + 1) σ Hj, ct := fun σ Hj => LAt c PL PA B S na sa ns st (i + 1) σ Hj, bk := D.nx } σ' H' := fun σ' H' e => ⟨⟨B, S, na, sa, ns, st, i⟩, ok, e, fun _ _ z => z⟩
  refine ⟨_, s10, rfl, fun _ => ⟨_, rfl, iteT ?_⟩, fun _ => ⟨_, rfl, iteF ?_⟩⟩
  · exact br _ _ look
  · refine ⟨_, s10, rfl, fun _ => ⟨_, rfl, iteT ?_⟩, fun _ => ⟨_, rfl, iteF ?_⟩⟩
    · exact br _ _ look
    · exact br _ _ look
/-! ### law -/
def spLaw (K : PySem.W.Frag) (PL PA : Addr) : Sp := fun vs H Q _ => ∃ (a : Addr) (cells : List Int), vs = [.ref a] ∧ SqL K H a (cells.map V.int) ∧ cells.length ≤ 63 ∧ TblS PL PA H ∧ ∀ H', Q (.bl true) H'
theorem law_ok {fd : FuncData} (T : Txt w K mg c) (SE : Sees K mg c) (R : Exs P K mg c) (Z : Tbs K mg base cL PL cA PA) (nLA : PL ≠ PA) (F : FnP K "law" "law" s_law f fd) (hc : fd.code = .ref cL) : FnOk P w K mg base CX0 21 f fd ["_law_script_z"] (spLaw K PL PA) := by
  obtain ⟨oc, od, dV, kV, doc, pm, an, cdv, ct, osl, rfl, lk, hcd, _, _⟩ := F.ex
  have hc : cdv = .ref cL := hc
  subst hc
  refine fn_of (N := lawN) lk hcd sc_law (fun vs H Q E ⟨_, _, e, _⟩ => by rw [e]; rfl) fun A outer s H vs Q E hr h => ?_
  obtain ⟨a, cells, rfl, ha, hl, ht, q⟩ := h
  have h0 := law_s0 (PL := PL) (PA := PA) (P := P) (base := base) (f := f) (A := A) (outer := outer) (s := s) (H0 := H) (E := E) (cL := cL) T hr (Nat.le_refl 20)
  have h1 := law_s1 (PL := PL) (PA := PA) (P := P) (base := base) (f := f) (A := A) (outer := outer) (s := s) (H0 := H) (E := E) (cL := cL) T hr (Nat.le_refl 20)
  have h2 := law_s2 (PL := PL) (PA := PA) (P := P) (base := base) (f := f) (A := A) (outer := outer) (s := s) (H0 := H) (E := E) (cL := cL) T hr (Nat.le_refl 20)
  have h3 := law_s3 (P := P) (base := base) (f := f) (A := A) (outer := outer) (s := s) (H0 := H) (E := E) (cL := cL) T nLA hr (Nat.le_refl 20)
  have h4 := law_s4 (P := P) (f := f) (A := A) (outer := outer) (s := s) (H0 := H) (E := E) T SE R Z hr (Nat.le_refl 20)
  have h5 : PSs (lawX P w K mg base f cL A outer s H E) (defBody s_law) _ := pss_cons h0 (pss_cons h1 (pss_cons h2 (pss_cons h3 (pss_cons h4 (pss_one (ps_ret pe_bl))))))
  refine ⟨_, h5, ?_⟩
  exact ⟨⟨a, cells, rfl, ha, hl, ht⟩, fun σ1 H1 e1 => ⟨e1, fun σ2 H2 e2 => ⟨e2, fun σ3 H3 e3 => ⟨e3, fun σ4 H4 p po pn pa => ⟨p, po, pn, pa, fun σ5 H5 => q H5⟩⟩⟩⟩⟩
end
end AG
namespace AG
open PySem PySem.Spec PyProof.Rows L2
open He (ba eqO eqO_ok ga ma)
theorem frNat_eq {α : Type} (n : Nat) (k : Nat → α) : frNat n k = k n := by cases n <;> rfl
theorem frL_eq {α : Type} : ∀ (l : List Addr) (k : List Addr → α), frL l k = k l
  | [], _ => rfl
  | a :: r, k => by
    show frNat a (fun a => frL r fun r => k (a :: r)) = _
    rw [frNat_eq, frL_eq r]
theorem frK_eq {α : Type} : ∀ (l : PySem.W.Frag) (k : PySem.W.Frag → α), frK l k = k l
  | [], _ => rfl
  | (a, ⟨c, d, dt, sl⟩) :: r, k => by
    show frNat a (fun a => frK r fun r => k ((a, ⟨c, d, dt, sl⟩) :: r)) = _
    rw [frNat_eq, frK_eq r]
def asK (need : List Str) (g : Addr → Option Obj) : List Addr := mainGlobals :: cStatics :: (globK need g ++ (stepK g (globK need g) ++ (stepK g (stepK g (globK need g)) ++ (stepK g (stepK g (stepK g (globK need g))) ++ stepK g (stepK g (stepK g (stepK g (globK need g))))))))
theorem withAs_eq {α : Type} (need : List Str) (g : Addr → Option Obj) (k : List Addr → α) : withAs need g k = k (asK need g) := by
  unfold withAs asK
  rw [frL_eq, frL_eq, frL_eq, frL_eq, frL_eq]
theorem fnY_ok {K : PySem.W.Frag} {d : YD} {a : Addr} (e : fnY K a = d.val) (h : codB K a d.qual = true) : ∃ oc od osl, ∃ (clo : List (Str × Addr)) (doc pm : Value) (an : Option Addr) (ct : Value),
    clo.map (·.1) = d.clo ∧ K.lookup a = some ⟨oc, od, .func ⟨d.name, d.qual, defArgs d.st, .stmts (defBody d.st), defScope d.st, mainGlobals, clo, .none, .none, doc, pm, an, .ref (codA K a), ct, builtinsNs⟩, osl⟩ ∧ PySem.W.codeIn K (.ref (codA K a)) d.qual = true ∧ clo1 K a = (match clo with
      | (_, c) :: _ => c
      | _ => 0) := by
  unfold fnY at e
  unfold codB at h
  unfold codA clo1
  cases q : K.lookup a with
  | none =>
    rw [q] at h
    cases h
  | some o =>
    obtain ⟨oc, od, dt, osl⟩ := o
    rw [q] at h e
    cases dt with
    | func fd =>
      obtain ⟨n1, n2, n3, n4, n5, n6, n7, n8, n9, n10, n11, n12, n13, n14, n15⟩ := fd
      have e2 : (some (n1, n2, n3, n4, n5, n6, n7.map (·.1), n8, n9, n15) : FnY) = some (d.name, d.qual, defArgs d.st, .stmts (defBody d.st), defScope d.st, mainGlobals, d.clo, .none, .none, builtinsNs) := e
      simp only [Option.some.injEq, Prod.mk.injEq] at e2
      obtain ⟨h1, h2, h3, h4, h5, h6, h7, h8, h9, h10⟩ := e2
      subst h1 h2 h3 h4 h5 h6 h8 h9 h10
      have h : PySem.W.codeIn K n13 _ = true := h
      obtain ⟨c, rfl⟩ := He.codeIn_ref h
      exact ⟨oc, od, osl, n7, n10, n11, n12, n14, h7, rfl, h, rfl⟩
    | _ => cases h
theorem own_ok {K : PySem.W.Frag} {h : Heap} {mg : Str → Option Value} {x : Str} (X : K.In h) (G : h.Ns mainGlobals mg) (g : (He.Fa.glo x).ok K = true) (cl : (He.Fa.cls x).ok K = true) (b : ownB K x = true) : Own K mg x (ga K x) := by
  obtain ⟨b1, b⟩ := ba b
  obtain ⟨b2, b⟩ := ba b
  obtain ⟨b3, b⟩ := ba b
  obtain ⟨b4, b⟩ := ba b
  obtain ⟨b5, b6⟩ := ba b
  exact ⟨He.glo_ok X G g, He.cls_ok cl, eqO_ok b1, eqO_ok b2, of_decide_eq_true b3, of_decide_eq_true b4, of_decide_eq_true b5, b6⟩
theorem prop_ok {K : PySem.W.Frag} {d : PD} (b : propB K d = true) (e : fnY K (d.y.path K) = d.y.val) : PropD K (ga K d.C) d.m d.qual d.st := by
  obtain ⟨b1, b⟩ := ba b
  obtain ⟨b2, b⟩ := ba b
  obtain ⟨b3, b⟩ := ba b
  obtain ⟨b4, b⟩ := ba b
  obtain ⟨b5, b6⟩ := ba b
  obtain ⟨oc, od, osl, clo, doc, pm, an, ct, h1, h2, h3, _⟩ := fnY_ok (d := d.y) e b5
  have h1 : clo.map (·.1) = [] := h1
  obtain rfl : clo = [] := List.map_eq_nil_iff.mp h1
  refine ⟨_, _, _, ⟨eqO_ok b1, eqO_ok b2, of_decide_eq_true b3, ?_⟩, ⟨⟨oc, od, .none, .none, doc, pm, an, _, ct, osl, rfl, h2, h3, .inl ⟨rfl, rfl⟩, .inl rfl⟩, b6⟩⟩
  show ∃ rest, PySem.W.recIn K (ma K (ga K d.C) d.m) "property" = some (.ref (pgA K (ma K (ga K d.C) d.m)) :: rest)
  unfold pgA
  split at b4
  · rename_i g r q
    rw [q]
    exact ⟨r, rfl⟩
  · cases b4
theorem xcls_of {K : PySem.W.Frag} {C : Addr} {bmB : List Value} {newId : String} (q : PySem.W.excInitIn K C bmB newId = true) (hd : PySem.W.hasDictIn K C = true) :
    ∃ nm qn N bs bm sn sub ab col dd k0 k1 k2 k3 k5, K.lookup C = some (excClassObj nm qn C N bs bm true sn sub ab col dd k0 k1 k2 k3 k5 newId) ∧ PySem.W.excTail bmB bm = true := by
  unfold PySem.W.excInitIn at q
  split at q
  · rename_i dd cd sl ho
    split at q
    · rename_i C' bm k0 k1 k2 k3 n k5 hm hs
      simp only [Bool.and_eq_true, beq_iff_eq, Bool.not_eq_true'] at q
      obtain ⟨⟨⟨rfl, rfl⟩, hdel⟩, ht⟩ := q
      obtain ⟨nm, bs, mro, ns, qn, hdct, sn, sub, ab, col, del⟩ := cd
      dsimp only at hm hdel
      subst hm hdel
      obtain ⟨l⟩ := sl
      simp only at hs
      subst hs
      have hh : hdct = true := by
        unfold PySem.W.hasDictIn PySem.W.clsIn at hd
        rw [ho] at hd
        simpa using hd
      subst hh
      exact ⟨nm, qn, ns, bs, bm, sn, sub, ab, col, dd, k0, k1, k2, k3, k5, ho, ht⟩
    · cases q
  · cases q
/-- what is told of one -/
def XOk (K : PySem.W.Frag) (mg : Str → Option Value) (d : XD) : Prop := AGX.XAll lawP K mg d.x d.st d.qual d.x d.fld (ga K d.x) d.B d.newId d.initId d.bmB ∧ PySem.W.exmAny K (.ref (ga K d.x)) [.ref (ga K "GroundError"), .ref (ga K "Missing"), .ref (ga K "NothingLeft")] = some true ∧ XfC K (ga K d.x) ∧ PySem.W.findIn K (.ref (ga K d.x)) "code" = some none ∧ ∀ f, d.fld = some f → PySem.W.findIn K (.ref (ga K d.x)) f = some none
theorem xall_ok {K : PySem.W.Frag} {h : Heap} {mg : Str → Option Value} {d : XD} (X : K.In h) (G : h.Ns mainGlobals mg) (g : (He.Fa.glo d.x).ok K = true) (b : xB K d = true) (e : fnY K (d.y.path K) = d.y.val) (third : PySem.W.nsIn K cStatics "thirdparty.any" = some none) (ns : mg "super" = none)
    (form : AGX.Form d.st d.qual d.x d.fld) (FB : ExcBaseFacts d.B d.newId d.initId d.bmB) (KF : PySem.W.KxsFacts d.B d.initId) (SB : StoreFacts d.B d.bmB "object.__setattr__" "object") :
    XOk K mg d := by
  obtain ⟨b1, b⟩ := ba b
  obtain ⟨b2, b⟩ := ba b
  obtain ⟨b3, b⟩ := ba b
  obtain ⟨b4, b⟩ := ba b
  obtain ⟨b5, b⟩ := ba b
  obtain ⟨b6, b⟩ := ba b
  obtain ⟨b7, b⟩ := ba b
  obtain ⟨b8, b⟩ := ba b
  obtain ⟨b9, b⟩ := ba b
  obtain ⟨b10, b⟩ := ba b
  obtain ⟨b11, b⟩ := ba b
  obtain ⟨b12, b⟩ := ba b
  obtain ⟨b13, b⟩ := ba b
  obtain ⟨b14, b⟩ := ba b
  obtain ⟨b15, b⟩ := ba b
  obtain ⟨b16, b⟩ := ba b
  obtain ⟨b17, b18⟩ := ba b
  obtain ⟨oc, od, osl, clo, doc, pm, an, ct, h1, h2, h3, h4⟩ := fnY_ok (d := d.y) e b15
  have h1 : clo.map (·.1) = (["__class__"] : List Str) := h1
  obtain ⟨cc, rfl⟩ : ∃ cc : Addr, clo = ([("__class__", cc)] : List (Str × Addr)) := by
    cases clo with
    | nil => cases h1
    | cons a r =>
      obtain ⟨n, cc⟩ := a
      rw [List.map_cons] at h1
      injection h1 with h5 h6
      have h5 : n = "__class__" := h5
      obtain rfl : r = [] := List.map_eq_nil_iff.mp h6
      exact ⟨cc, by rw [h5]⟩
  have h4 : clo1 K (ma K (ga K d.x) "__init__") = cc := h4
  rw [h4] at b13
  have ff : ∀ f, d.fld = some f → PySem.W.findIn K (.ref (ga K d.x)) f = some none := fun f ef => by
    rw [ef] at b16
    exact eqO_ok b16
  refine ⟨⟨form, ⟨ma K (ga K d.x) "__init__", cc, codA K (ma K (ga K d.x) "__init__"), ⟨He.glo_ok X G g, ?_, eqO_ok b3, eqO_ok b4, eqO_ok b5, of_decide_eq_true b6, b7, of_decide_eq_true b8, of_decide_eq_true b9, b2, of_decide_eq_true b10, of_decide_eq_true b11, eqO_ok b12, ?_, ?_, third, ns, by decide +kernel⟩, oc, od, doc, pm, an, ct, osl, h2, h3⟩, ?_, FB, KF, SB⟩, of_decide_eq_true b17, xfB_ok b18, eqO_ok b4, ff⟩
  · obtain ⟨nm, qn, N, bs, bm, sn, sub, ab, col, dd, k0, k1, k2, k3, k5, l, t⟩ := xcls_of b1 b2
    exact ⟨nm, qn, N, bs, bm, sn, sub, ab, col, dd, k0, k1, k2, k3, k5, l, t⟩
  · unfold cellB at b13
    split at b13
    · rename_i q
      rw [of_decide_eq_true b13] at q
      exact ⟨_, _, _, q⟩
    · cases b13
  · unfold fileB at b14
    split at b14
    · rename_i q
      split at b14
      · rename_i q2
        exact ⟨_, _, _, _, _, _, q, q2, b14⟩
      · cases b14
    · cases b14
  · obtain ⟨dx, dst, dq, df, dB, dn, di, dm⟩ := d
    cases df with
    | none => trivial
    | some f => exact ff f rfl
/-! ### tables with text keys -/
theorem tab_ok {i : Nat} {w : World} {K : PySem.W.Frag} {h : Heap} {mg : Str → Option Value} {x : Str} {tab : List (Str × V)} {kvs : List (Str × He.Dv)} (X : K.In h) (G : h.Ns mainGlobals mg) (g : (He.Fa.glo x).ok K = true) (t : ∃ es n, KDict K w (ga K x) es n) (v : He.valsB K (ga K x) kvs = true) (e : tab = kvs.map fun q => (q.1, q.2.v K) := by rfl) : KTb w K mg x tab := by
  obtain ⟨es, n, hk⟩ := t
  refine ⟨_, es, n, He.glo_ok X G g, hk, fun p hp => ?_⟩
  rw [e] at hp
  obtain ⟨q, hq, rfl⟩ := List.mem_map.mp hp
  exact He.valsB_ok v hq

theorem more_own {K : PySem.W.Frag} (m : exAll K = true) {x : Str} (h : x ∈ owns) : ownB K x = true := List.all_eq_true.mp (ba m).1 x h
theorem more_prop {K : PySem.W.Frag} (m : exAll K = true) (i : Nat) {d : PD} (h : propD[i]? = some d) : propB K d = true := List.all_eq_true.mp (ba (ba m).2).1 d (List.mem_of_getElem? h)
theorem more_x {K : PySem.W.Frag} (m : exAll K = true) {d : XD} (h : d ∈ xsAll) : xB K d = true := List.all_eq_true.mp (ba (ba (ba m).2).2).1 d h
theorem more_third {K : PySem.W.Frag} (m : exAll K = true) : PySem.W.nsIn K cStatics "thirdparty.any" = some none := eqO_ok (ba (ba (ba (ba m).2).2).2).1
theorem more_pairs {K : PySem.W.Frag} (m : exAll K = true) : He.tupB K "PAIRS" [.str "then", .str "and", .str "or"] = true := (ba (ba (ba (ba (ba m).2).2).2).2).1
theorem more_SIZES_scripts {K : PySem.W.Frag} (m : exAll K = true) : He.valsB K (ga K "SIZES_scripts") kv_SIZES_scripts = true := (ba (ba (ba (ba (ba (ba m).2).2).2).2).2).1
theorem more_REFERENCES {K : PySem.W.Frag} (m : exAll K = true) : He.valsB K (ga K "REFERENCES") kv_REFERENCES = true := (ba (ba (ba (ba (ba (ba (ba m).2).2).2).2).2).2).1
theorem more_SIZES_shelf {K : PySem.W.Frag} (m : exAll K = true) : He.valsB K (ga K "SIZES_shelf") kv_SIZES_shelf = true := (ba (ba (ba (ba (ba (ba (ba m).2).2).2).2).2).2).2
/-! ### the Hook -/
structure SaysY (w : World) (h : Heap) (K : PySem.W.Frag) : Prop where
  t : He.SaysT faAll fnAll tsAll w K
  more : exAll K = true
  ys : ysAll.map (fun d => fnY K (d.path K)) = ysAll.map YD.val
  hd : ∀ p ∈ tfAll, PySem.W.codeHdIn K (He.cT K p).1 (He.cT K p).2 = true
  out : ∀ p ∈ tfAll, K.lookup (He.cT K p).2 = none
  empty : ∀ p ∈ tfAll, h.get? (He.cT K p).2 = some { cls := .none, data := .fields #[] }
  apart : (He.cT K ("law", none)).2 ≠ (He.cT K ("_law_applier", none)).2
theorem SaysY.fn {w : World} {h : Heap} {K : PySem.W.Frag} (y : SaysY w h K) (i : Nat) {d : YD} (e : ysAll[i]? = some d) : fnY K (d.path K) = d.val := by
  have e2 : (ysAll.map fun d => fnY K (d.path K))[i]? = (ysAll.map YD.val)[i]? := by rw [y.ys]
  rw [List.getElem?_map, List.getElem?_map, e] at e2
  exact Option.some.inj e2
theorem saysY_of {w : World} {h : Heap} (e0 : obsY h.get? = valY w) : ∃ K : PySem.W.Frag, K.In h ∧ SaysY w h K := by
  obtain ⟨as, ea⟩ : ∃ as, as = asK needN h.get? := ⟨_, rfl⟩
  have e : obsK h.get? (He.frT h.get? as) = valY w := by
    unfold obsY at e0
    rw [withAs_eq, frK_eq, ← ea] at e0
    exact e0
  refine ⟨He.frT h.get? as, He.frT_in, ?_⟩
  generalize hK : He.frT h.get? as = K at e ⊢
  have e1 : He.obsT faAll fnAll tsAll K = He.valT fnAll tsAll w := congrArg (fun z : AlY => z.1.1) e
  have e2 : ysAll.map (fun d => fnY K (d.path K)) = ysAll.map YD.val := congrArg (fun z : AlY => z.1.2) e
  have e3 : (exAll K && (He.tabsB h.get? tfAll K && !decide ((He.cT K ("law", none)).2 = (He.cT K ("_law_applier", none)).2))) = true := congrArg (fun z : AlY => z.2) e
  obtain ⟨h1, h23⟩ := ba e3
  obtain ⟨h2, h3⟩ := ba h23
  have key : ∀ p ∈ tfAll, PySem.W.codeHdIn K (He.cT K p).1 (He.cT K p).2 = true ∧ ∃ o, h.get? (He.cT K p).2 = some o ∧ He.emptyTab o = true := fun p hp => by
    obtain ⟨h4, h5⟩ := ba (List.all_eq_true.mp h2 p hp)
    refine ⟨h4, ?_⟩
    cases q : h.get? (He.cT K p).2 with
    | none =>
      rw [q] at h5
      cases h5
    | some o =>
      rw [q] at h5
      exact ⟨o, rfl, h5⟩
  refine ⟨e1, h1, e2, fun p hp => (key p hp).1, fun p hp => ?_, fun p hp => ?_, fun z => ?_⟩
  · obtain ⟨_, o, q, z⟩ := key p hp
    rw [← hK] at q ⊢
    exact He.frT_none q z
  · obtain ⟨_, o, q, z⟩ := key p hp
    rw [q, He.emptyTab_eq z]
  · rw [decide_eq_true z] at h3
    cases h3
def hookY : PySem.W.Hook where
  α := AlY
  obs := fun s => obsY s.heap.get?
  val := fun w => valY w
  says := fun w h => ∃ K : PySem.W.Frag, K.In h ∧ SaysY w h K
  of := fun _ _ e => saysY_of e
  keeps := fun _ _ _ ⟨K, hK, c⟩ k => ⟨K, PySem.W.Frag.In.keeps hK k, ⟨c.t, c.more, c.ys, c.hd, c.out, fun p hp => k _ _ (c.empty p hp), c.apart⟩⟩
theorem obsY_eq {g : Addr → Option Obj} {s : Shared} (h : ∀ a, g a = s.heap.get? a) : obsY g = hookY.obs s := by
  have e : g = s.heap.get? := funext h
  rw [e] <;> rfl
/-! ### what it tells -/
def csOf (K : PySem.W.Frag) : Cs := ⟨ga K "Context", ga K "Script", ga K "Claim", ga K "Changing", ga K "Shelf", ga K "Circular", ga K "NameInUse", ga K "Full", ga K "UnknownName", ga K "NothingLeft", ga K "GroundError", ga K "Missing"⟩
section
variable {w : World} {h : Heap} {K : PySem.W.Frag} {mg : Str → Option Value}
theorem txt_of (X : K.In h) (G : h.Ns mainGlobals mg) (y : SaysY w h K) : Txt w K mg (csOf K) := by
  have t := y.t
  have c := t.d
  have m := y.more
  exact {
    n_isinstance := He.free_ok X G (c.fact 0 (f := .free "isinstance") rfl)
    n_len := He.free_ok X G (c.fact 1 (f := .free "len") rfl)
    n_int := He.free_ok X G (c.fact 2 (f := .free "int") rfl)
    n_str := He.free_ok X G (c.fact 3 (f := .free "str") rfl)
    n_bool := He.free_ok X G (c.fact 4 (f := .free "bool") rfl)
    n_list := He.free_ok X G (c.fact 5 (f := .free "list") rfl)
    n_tuple := He.free_ok X G (c.fact 6 (f := .free "tuple") rfl)
    n_dict := He.free_ok X G (c.fact 7 (f := .free "dict") rfl)
    n_all := He.free_ok X G (c.fact 8 (f := .free "all") rfl)
    n_sorted := He.free_ok X G (c.fact 9 (f := .free "sorted") rfl)
    n_enumerate := He.free_ok X G (c.fact 10 (f := .free "enumerate") rfl)
    n_range := He.free_ok X G (c.fact 11 (f := .free "range") rfl)
    n_repr := He.free_ok X G (c.fact 12 (f := .free "repr") rfl)
    n_zip := He.free_ok X G (c.fact 13 (f := .free "zip") rfl)
    n_max := He.free_ok X G (c.fact 14 (f := .free "max") rfl)
    n_super := He.free_ok X G (c.fact 15 (f := .free "super") rfl)
    k_MOST_LETTERS := let ⟨t, e⟩ := He.int_ok X G (c.fact 16 (f := .int "MOST_LETTERS" 6) rfl); ⟨_, e, t, rfl⟩
    k_MOST_DEEP := let ⟨t, e⟩ := He.int_ok X G (c.fact 17 (f := .int "MOST_DEEP" 10) rfl); ⟨_, e, t, rfl⟩
    k_MOST_ROWS := let ⟨t, e⟩ := He.int_ok X G (c.fact 18 (f := .int "MOST_ROWS" 40) rfl); ⟨_, e, t, rfl⟩
    k_MOST_COMMANDS := let ⟨t, e⟩ := He.int_ok X G (c.fact 19 (f := .int "MOST_COMMANDS" 16) rfl); ⟨_, e, t, rfl⟩
    k_MOST_NESTED := let ⟨t, e⟩ := He.int_ok X G (c.fact 20 (f := .int "MOST_NESTED" 3) rfl); ⟨_, e, t, rfl⟩
    k_MOST_TURNS := let ⟨t, e⟩ := He.int_ok X G (c.fact 21 (f := .int "MOST_TURNS" 3) rfl); ⟨_, e, t, rfl⟩
    k_MOST_PLACE := let ⟨t, e⟩ := He.int_ok X G (c.fact 22 (f := .int "MOST_PLACE" 4) rfl); ⟨_, e, t, rfl⟩
    k_MOST_OWN := let ⟨t, e⟩ := He.int_ok X G (c.fact 23 (f := .int "MOST_OWN" 8) rfl); ⟨_, e, t, rfl⟩
    k_MOST_ENTRIES := let ⟨t, e⟩ := He.int_ok X G (c.fact 24 (f := .int "MOST_ENTRIES" 20) rfl); ⟨_, e, t, rfl⟩
    k_LETTERS := let ⟨t, e⟩ := He.str_ok X G (c.fact 25 (f := .str "LETTERS" abc) rfl); ⟨_, e, t, rfl⟩
    k_PAIRS := ⟨_, ⟨_, (He.glo_ok X G (c.fact 26 (f := .glo "PAIRS") rfl)), rfl⟩, fun H => He.tupB_ok (vs := [.str "then", .str "and", .str "or"]) (more_pairs m) H⟩
    t_SIZES_scripts := tab_ok (i := 0) X G (c.fact 27 (f := .glo "SIZES_scripts") rfl) (t.tab 0) (more_SIZES_scripts m)
    t_REFERENCES := tab_ok (i := 1) X G (c.fact 28 (f := .glo "REFERENCES") rfl) (t.tab 1) (more_REFERENCES m)
    t_SIZES_shelf := tab_ok (i := 2) X G (c.fact 29 (f := .glo "SIZES_shelf") rfl) (t.tab 2) (more_SIZES_shelf m)
    d_is_number := let ⟨fd, F⟩ := c.def_ 0 (d := df_is_number) rfl; ⟨_, fd, (He.glo_ok X G (c.fact 30 (f := .glo "is_number") rfl)), F⟩
    d_is_listed := let ⟨fd, F⟩ := c.def_ 1 (d := df_is_listed) rfl; ⟨_, fd, (He.glo_ok X G (c.fact 31 (f := .glo "is_listed") rfl)), F⟩
    d_is_name := let ⟨fd, F⟩ := c.def_ 2 (d := df_is_name) rfl; ⟨_, fd, (He.glo_ok X G (c.fact 32 (f := .glo "is_name") rfl)), F⟩
    d_is_leaf := let ⟨fd, F⟩ := c.def_ 3 (d := df_is_leaf) rfl; ⟨_, fd, (He.glo_ok X G (c.fact 33 (f := .glo "is_leaf") rfl)), F⟩
    d_is_form := let ⟨fd, F⟩ := c.def_ 4 (d := df_is_form) rfl; ⟨_, fd, (He.glo_ok X G (c.fact 34 (f := .glo "is_form") rfl)), F⟩
    d_is_formula := let ⟨fd, F⟩ := c.def_ 5 (d := df_is_formula) rfl; ⟨_, fd, (He.glo_ok X G (c.fact 35 (f := .glo "is_formula") rfl)), F⟩
    d_chained := let ⟨fd, F⟩ := c.def_ 6 (d := df_chained) rfl; ⟨_, fd, (He.glo_ok X G (c.fact 36 (f := .glo "chained") rfl)), F⟩
    d_is_row := let ⟨fd, F⟩ := c.def_ 7 (d := df_is_row) rfl; ⟨_, fd, (He.glo_ok X G (c.fact 37 (f := .glo "is_row") rfl)), F⟩
    d_has_word := let ⟨fd, F⟩ := c.def_ 8 (d := df_has_word) rfl; ⟨_, fd, (He.glo_ok X G (c.fact 38 (f := .glo "has_word") rfl)), F⟩
    d_is_like_reference := let ⟨fd, F⟩ := c.def_ 9 (d := df_is_like_reference) rfl; ⟨_, fd, (He.glo_ok X G (c.fact 39 (f := .glo "is_like_reference") rfl)), F⟩
    d_is_reference := let ⟨fd, F⟩ := c.def_ 10 (d := df_is_reference) rfl; ⟨_, fd, (He.glo_ok X G (c.fact 40 (f := .glo "is_reference") rfl)), F⟩
    d_blocks_of := let ⟨fd, F⟩ := c.def_ 11 (d := df_blocks_of) rfl; ⟨_, fd, (He.glo_ok X G (c.fact 41 (f := .glo "blocks_of") rfl)), F⟩
    d_is_right := let ⟨fd, F⟩ := c.def_ 12 (d := df_is_right) rfl; ⟨_, fd, (He.glo_ok X G (c.fact 42 (f := .glo "is_right") rfl)), F⟩
    d_checked := let ⟨fd, F⟩ := c.def_ 13 (d := df_checked) rfl; ⟨_, fd, (He.glo_ok X G (c.fact 43 (f := .glo "checked") rfl)), F⟩
    d_pairs_in := let ⟨fd, F⟩ := c.def_ 14 (d := df_pairs_in) rfl; ⟨_, fd, (He.glo_ok X G (c.fact 44 (f := .glo "pairs_in") rfl)), F⟩
    d_statement := let ⟨fd, F⟩ := c.def_ 15 (d := df_statement) rfl; ⟨_, fd, (He.glo_ok X G (c.fact 45 (f := .glo "statement") rfl)), F⟩
    d_need_formula := let ⟨fd, F⟩ := c.def_ 16 (d := df_need_formula) rfl; ⟨_, fd, (He.glo_ok X G (c.fact 46 (f := .glo "need_formula") rfl)), F⟩
    d_is_deed := let ⟨fd, F⟩ := c.def_ 17 (d := df_is_deed) rfl; ⟨_, fd, (He.glo_ok X G (c.fact 47 (f := .glo "is_deed") rfl)), F⟩
    d_rests_on := let ⟨fd, F⟩ := c.def_ 18 (d := df_rests_on) rfl; ⟨_, fd, (He.glo_ok X G (c.fact 48 (f := .glo "rests_on") rfl)), F⟩
    d_need_recalled := let ⟨fd, F⟩ := c.def_ 19 (d := df_need_recalled) rfl; ⟨_, fd, (He.glo_ok X G (c.fact 49 (f := .glo "need_recalled") rfl)), F⟩
    d_claim_in := let ⟨fd, F⟩ := c.def_ 20 (d := df_claim_in) rfl; ⟨_, fd, (He.glo_ok X G (c.fact 50 (f := .glo "claim_in") rfl)), F⟩
    d_behind := let ⟨fd, F⟩ := c.def_ 21 (d := df_behind) rfl; ⟨_, fd, (He.glo_ok X G (c.fact 51 (f := .glo "behind") rfl)), F⟩
    d_users_in := let ⟨fd, F⟩ := c.def_ 22 (d := df_users_in) rfl; ⟨_, fd, (He.glo_ok X G (c.fact 52 (f := .glo "users_in") rfl)), F⟩
    d__law_bag := let ⟨fd, F⟩ := c.def_ 23 (d := df__law_bag) rfl; ⟨_, fd, (He.glo_ok X G (c.fact 53 (f := .glo "_law_bag") rfl)), F⟩
    d__law_pull := let ⟨fd, F⟩ := c.def_ 24 (d := df__law_pull) rfl; ⟨_, fd, (He.glo_ok X G (c.fact 54 (f := .glo "_law_pull") rfl)), F⟩
    d__law_any := let ⟨fd, F⟩ := c.def_ 25 (d := df__law_any) rfl; ⟨_, fd, (He.glo_ok X G (c.fact 55 (f := .glo "_law_any") rfl)), F⟩
    d__law_like := let ⟨fd, F⟩ := c.def_ 26 (d := df__law_like) rfl; ⟨_, fd, (He.glo_ok X G (c.fact 56 (f := .glo "_law_like") rfl)), F⟩
    d__law_fields := let ⟨fd, F⟩ := c.def_ 27 (d := df__law_fields) rfl; ⟨_, fd, (He.glo_ok X G (c.fact 57 (f := .glo "_law_fields") rfl)), F⟩
    d__law_try := let ⟨fd, F⟩ := c.def_ 28 (d := df__law_try) rfl; ⟨_, fd, (He.glo_ok X G (c.fact 58 (f := .glo "_law_try") rfl)), F⟩
    d__law_names := let ⟨fd, F⟩ := c.def_ 29 (d := df__law_names) rfl; ⟨_, fd, (He.glo_ok X G (c.fact 59 (f := .glo "_law_names") rfl)), F⟩
    d__law_form := let ⟨fd, F⟩ := c.def_ 30 (d := df__law_form) rfl; ⟨_, fd, (He.glo_ok X G (c.fact 60 (f := .glo "_law_form") rfl)), F⟩
    d__law_rows := let ⟨fd, F⟩ := c.def_ 31 (d := df__law_rows) rfl; ⟨_, fd, (He.glo_ok X G (c.fact 61 (f := .glo "_law_rows") rfl)), F⟩
    d__law_blocks := let ⟨fd, F⟩ := c.def_ 32 (d := df__law_blocks) rfl; ⟨_, fd, (He.glo_ok X G (c.fact 62 (f := .glo "_law_blocks") rfl)), F⟩
    d__law_paths := let ⟨fd, F⟩ := c.def_ 33 (d := df__law_paths) rfl; ⟨_, fd, (He.glo_ok X G (c.fact 63 (f := .glo "_law_paths") rfl)), F⟩
    d__law_unlike := let ⟨fd, F⟩ := c.def_ 34 (d := df__law_unlike) rfl; ⟨_, fd, (He.glo_ok X G (c.fact 64 (f := .glo "_law_unlike") rfl)), F⟩
    d__law_entries := let ⟨fd, F⟩ := c.def_ 35 (d := df__law_entries) rfl; ⟨_, fd, (He.glo_ok X G (c.fact 65 (f := .glo "_law_entries") rfl)), F⟩
    d__law_deed := let ⟨fd, F⟩ := c.def_ 36 (d := df__law_deed) rfl; ⟨_, fd, (He.glo_ok X G (c.fact 66 (f := .glo "_law_deed") rfl)), F⟩
    d__law_made_deed := let ⟨fd, F⟩ := c.def_ 37 (d := df__law_made_deed) rfl; ⟨_, fd, (He.glo_ok X G (c.fact 67 (f := .glo "_law_made_deed") rfl)), F⟩
    d__law_recalled := let ⟨fd, F⟩ := c.def_ 38 (d := df__law_recalled) rfl; ⟨_, fd, (He.glo_ok X G (c.fact 68 (f := .glo "_law_recalled") rfl)), F⟩
    d__law_place := let ⟨fd, F⟩ := c.def_ 39 (d := df__law_place) rfl; ⟨_, fd, (He.glo_ok X G (c.fact 69 (f := .glo "_law_place") rfl)), F⟩
    d__law_rests := let ⟨fd, F⟩ := c.def_ 40 (d := df__law_rests) rfl; ⟨_, fd, (He.glo_ok X G (c.fact 70 (f := .glo "_law_rests") rfl)), F⟩
    d__law_due := let ⟨fd, F⟩ := c.def_ 41 (d := df__law_due) rfl; ⟨_, fd, (He.glo_ok X G (c.fact 71 (f := .glo "_law_due") rfl)), F⟩
    d__law_states := let ⟨fd, F⟩ := c.def_ 42 (d := df__law_states) rfl; ⟨_, fd, (He.glo_ok X G (c.fact 72 (f := .glo "_law_states") rfl)), F⟩
    d__law_known := let ⟨fd, F⟩ := c.def_ 43 (d := df__law_known) rfl; ⟨_, fd, (He.glo_ok X G (c.fact 73 (f := .glo "_law_known") rfl)), F⟩
    d__law_shelf_is := let ⟨fd, F⟩ := c.def_ 44 (d := df__law_shelf_is) rfl; ⟨_, fd, (He.glo_ok X G (c.fact 74 (f := .glo "_law_shelf_is") rfl)), F⟩
    d__law_applier := let ⟨fd, F⟩ := c.def_ 45 (d := df__law_applier) rfl; ⟨_, fd, (He.glo_ok X G (c.fact 75 (f := .glo "_law_applier") rfl)), F⟩
    d_statement_terms := let ⟨fd, F⟩ := c.def_ 46 (d := df_statement_terms) rfl; ⟨_, fd, (He.glo_ok X G (c.fact 76 (f := .glo "statement_terms") rfl)), F⟩
    c_Context := own_ok X G (c.fact 77 (f := .glo "Context") rfl) (c.fact 78 (f := .cls "Context") rfl) (more_own m (by simp [owns]))
    c_Script := own_ok X G (c.fact 79 (f := .glo "Script") rfl) (c.fact 80 (f := .cls "Script") rfl) (more_own m (by simp [owns]))
    c_Claim := own_ok X G (c.fact 81 (f := .glo "Claim") rfl) (c.fact 82 (f := .cls "Claim") rfl) (more_own m (by simp [owns]))
    c_Changing := own_ok X G (c.fact 83 (f := .glo "Changing") rfl) (c.fact 84 (f := .cls "Changing") rfl) (more_own m (by simp [owns]))
    c_Shelf := own_ok X G (c.fact 85 (f := .glo "Shelf") rfl) (c.fact 86 (f := .cls "Shelf") rfl) (more_own m (by simp [owns]))
    mk_Changing := let ⟨fd, F⟩ := c.def_ 47 (d := df_Changing__init__) rfl; ⟨_, fd, He.mkr_ok (c.fact 87 (f := .mkr "Changing") rfl), F⟩
    mk_Claim := let ⟨fd, F⟩ := c.def_ 48 (d := df_Claim__init__) rfl; ⟨_, fd, He.mkr_ok (c.fact 88 (f := .mkr "Claim") rfl), F⟩
    mk_Shelf := let ⟨fd, F⟩ := c.def_ 49 (d := df_Shelf__init__) rfl; ⟨_, fd, He.mkr_ok (c.fact 89 (f := .mkr "Shelf") rfl), F⟩
    mk_Context := let ⟨fd, F⟩ := c.def_ 50 (d := df_Context__init__) rfl; ⟨_, ⟨_, fd, He.mkr_ok (c.fact 90 (f := .mkr "Context") rfl), F⟩⟩
    mk_Script := let ⟨fd, F⟩ := c.def_ 51 (d := df_Script__init__) rfl; ⟨_, ⟨_, fd, He.mkr_ok (c.fact 91 (f := .mkr "Script") rfl), F⟩⟩
    m_Context_rows := let ⟨fd, F⟩ := c.def_ 52 (d := df_Context_rows) rfl; ⟨_, fd, He.meth_ok (c.fact 92 (f := .meth "Context" "rows") rfl), F⟩
    m_Context___len__ := let ⟨fd, F⟩ := c.def_ 53 (d := df_Context___len__) rfl; ⟨_, fd, He.meth_ok (c.fact 93 (f := .meth "Context" "__len__") rfl), F⟩
    m_Context___eq__ := let ⟨fd, F⟩ := c.def_ 54 (d := df_Context___eq__) rfl; ⟨_, fd, He.meth_ok (c.fact 94 (f := .meth "Context" "__eq__") rfl), F⟩
    m_Script_walk := let ⟨fd, F⟩ := c.def_ 55 (d := df_Script_walk) rfl; ⟨_, fd, He.meth_ok (c.fact 95 (f := .meth "Script" "walk") rfl), F⟩
    m_Script_recalled := let ⟨fd, F⟩ := c.def_ 56 (d := df_Script_recalled) rfl; ⟨_, fd, He.meth_ok (c.fact 96 (f := .meth "Script" "recalled") rfl), F⟩
    m_Script___eq__ := let ⟨fd, F⟩ := c.def_ 57 (d := df_Script___eq__) rfl; ⟨_, fd, He.meth_ok (c.fact 97 (f := .meth "Script" "__eq__") rfl), F⟩
    m_Claim_facts := let ⟨fd, F⟩ := c.def_ 58 (d := df_Claim_facts) rfl; ⟨_, fd, He.meth_ok (c.fact 98 (f := .meth "Claim" "facts") rfl), F⟩
    m_Changing___enter__ := let ⟨fd, F⟩ := c.def_ 59 (d := df_Changing___enter__) rfl; ⟨_, fd, He.meth_ok (c.fact 99 (f := .meth "Changing" "__enter__") rfl), F⟩
    m_Changing___exit__ := let ⟨fd, F⟩ := c.def_ 60 (d := df_Changing___exit__) rfl; ⟨_, fd, He.meth_ok (c.fact 100 (f := .meth "Changing" "__exit__") rfl), F⟩
    m_Shelf_need_limit := let ⟨fd, F⟩ := c.def_ 61 (d := df_Shelf_need_limit) rfl; ⟨_, fd, He.meth_ok (c.fact 101 (f := .meth "Shelf" "need_limit") rfl), F⟩
    m_Shelf_apply := let ⟨fd, F⟩ := c.def_ 62 (d := df_Shelf_apply) rfl; ⟨_, fd, He.meth_ok (c.fact 102 (f := .meth "Shelf" "apply") rfl), F⟩
    m_Shelf_go_to := let ⟨fd, F⟩ := c.def_ 63 (d := df_Shelf_go_to) rfl; ⟨_, fd, He.meth_ok (c.fact 103 (f := .meth "Shelf" "go_to") rfl), F⟩
    m_Shelf_undo := let ⟨fd, F⟩ := c.def_ 64 (d := df_Shelf_undo) rfl; ⟨_, fd, He.meth_ok (c.fact 104 (f := .meth "Shelf" "undo") rfl), F⟩
    m_Shelf_redo := let ⟨fd, F⟩ := c.def_ 65 (d := df_Shelf_redo) rfl; ⟨_, fd, He.meth_ok (c.fact 105 (f := .meth "Shelf" "redo") rfl), F⟩
    m_Shelf_history := let ⟨fd, F⟩ := c.def_ 66 (d := df_Shelf_history) rfl; ⟨_, fd, He.meth_ok (c.fact 106 (f := .meth "Shelf" "history") rfl), F⟩
    m_Shelf_need := let ⟨fd, F⟩ := c.def_ 67 (d := df_Shelf_need) rfl; ⟨_, fd, He.meth_ok (c.fact 107 (f := .meth "Shelf" "need") rfl), F⟩
    m_Shelf_names := let ⟨fd, F⟩ := c.def_ 68 (d := df_Shelf_names) rfl; ⟨_, fd, He.meth_ok (c.fact 108 (f := .meth "Shelf" "names") rfl), F⟩
    m_Shelf_claim_of := let ⟨fd, F⟩ := c.def_ 69 (d := df_Shelf_claim_of) rfl; ⟨_, fd, He.meth_ok (c.fact 109 (f := .meth "Shelf" "claim_of") rfl), F⟩
    m_Shelf_statement := let ⟨fd, F⟩ := c.def_ 70 (d := df_Shelf_statement) rfl; ⟨_, fd, He.meth_ok (c.fact 110 (f := .meth "Shelf" "statement") rfl), F⟩
    m_Shelf_users := let ⟨fd, F⟩ := c.def_ 71 (d := df_Shelf_users) rfl; ⟨_, fd, He.meth_ok (c.fact 111 (f := .meth "Shelf" "users") rfl), F⟩
    m_Shelf_rests := let ⟨fd, F⟩ := c.def_ 72 (d := df_Shelf_rests) rfl; ⟨_, fd, He.meth_ok (c.fact 112 (f := .meth "Shelf" "rests") rfl), F⟩
    m_Shelf___contains__ := let ⟨fd, F⟩ := c.def_ 73 (d := df_Shelf___contains__) rfl; ⟨_, fd, He.meth_ok (c.fact 113 (f := .meth "Shelf" "__contains__") rfl), F⟩
    m_Shelf___len__ := let ⟨fd, F⟩ := c.def_ 74 (d := df_Shelf___len__) rfl; ⟨_, fd, He.meth_ok (c.fact 114 (f := .meth "Shelf" "__len__") rfl), F⟩
    m_Shelf___repr__ := let ⟨fd, F⟩ := c.def_ 75 (d := df_Shelf___repr__) rfl; ⟨_, fd, He.meth_ok (c.fact 115 (f := .meth "Shelf" "__repr__") rfl), F⟩
    p_Claim_script := prop_ok (more_prop m 0 rfl) (y.fn 0 rfl)
    p_Claim_context := prop_ok (more_prop m 1 rfl) (y.fn 1 rfl)
    p_Claim_goal := prop_ok (more_prop m 2 rfl) (y.fn 2 rfl)
    p_Shelf_busy := prop_ok (more_prop m 3 rfl) (y.fn 3 rfl)
    f_Context_held := He.noat_ok (c.fact 116 (f := .noat "Context" "held") rfl)
    f_Script_held := He.noat_ok (c.fact 117 (f := .noat "Script" "held") rfl)
    f_Script_whole := He.noat_ok (c.fact 118 (f := .noat "Script" "whole") rfl)
    f_Claim_own_script := He.noat_ok (c.fact 119 (f := .noat "Claim" "own_script") rfl)
    f_Claim_own_context := He.noat_ok (c.fact 120 (f := .noat "Claim" "own_context") rfl)
    f_Claim_own_goal := He.noat_ok (c.fact 121 (f := .noat "Claim" "own_goal") rfl)
    f_Claim_own_facts := He.noat_ok (c.fact 122 (f := .noat "Claim" "own_facts") rfl)
    f_Changing_house := He.noat_ok (c.fact 123 (f := .noat "Changing" "house") rfl)
    f_Shelf_content := He.noat_ok (c.fact 124 (f := .noat "Shelf" "content") rfl)
    f_Shelf_past := He.noat_ok (c.fact 125 (f := .noat "Shelf" "past") rfl)
    f_Shelf_future := He.noat_ok (c.fact 126 (f := .noat "Shelf" "future") rfl)
    f_Shelf_held := He.noat_ok (c.fact 127 (f := .noat "Shelf" "held") rfl)
    f_Shelf_working := He.noat_ok (c.fact 128 (f := .noat "Shelf" "working") rfl)
    f_Shelf_reckoned := He.noat_ok (c.fact 129 (f := .noat "Shelf" "reckoned") rfl)
    f_Shelf_own_limit := He.noat_ok (c.fact 130 (f := .noat "Shelf" "own_limit") rfl)
  }
theorem x_Circular (X : K.In h) (G : h.Ns mainGlobals mg) (y : SaysY w h K) : XOk K mg xd_Circular := xall_ok (d := xd_Circular) X G (y.t.d.fact 135 (f := .glo "Circular") rfl) (more_x y.more (by simp [xsAll])) (y.fn 4 rfl) (more_third y.more) (He.free_ok X G (y.t.d.fact 15 (f := .free "super") rfl)) form_Circular PySem.F.excBase_ValueError PySem.W.kxs_ValueError PySem.F.store_ValueError
theorem x_NameInUse (X : K.In h) (G : h.Ns mainGlobals mg) (y : SaysY w h K) : XOk K mg xd_NameInUse := xall_ok (d := xd_NameInUse) X G (y.t.d.fact 136 (f := .glo "NameInUse") rfl) (more_x y.more (by simp [xsAll])) (y.fn 5 rfl) (more_third y.more) (He.free_ok X G (y.t.d.fact 15 (f := .free "super") rfl)) form_NameInUse PySem.F.excBase_ValueError PySem.W.kxs_ValueError PySem.F.store_ValueError
theorem x_Full (X : K.In h) (G : h.Ns mainGlobals mg) (y : SaysY w h K) : XOk K mg xd_Full := xall_ok (d := xd_Full) X G (y.t.d.fact 137 (f := .glo "Full") rfl) (more_x y.more (by simp [xsAll])) (y.fn 6 rfl) (more_third y.more) (He.free_ok X G (y.t.d.fact 15 (f := .free "super") rfl)) form_Full PySem.F.excBase_ValueError PySem.W.kxs_ValueError PySem.F.store_ValueError
theorem x_UnknownName (X : K.In h) (G : h.Ns mainGlobals mg) (y : SaysY w h K) : XOk K mg xd_UnknownName := xall_ok (d := xd_UnknownName) X G (y.t.d.fact 138 (f := .glo "UnknownName") rfl) (more_x y.more (by simp [xsAll])) (y.fn 7 rfl) (more_third y.more) (He.free_ok X G (y.t.d.fact 15 (f := .free "super") rfl)) form_UnknownName PySem.F.excBase_LookupError PySem.W.kxs_LookupError PySem.F.store_LookupError
theorem x_NothingLeft (X : K.In h) (G : h.Ns mainGlobals mg) (y : SaysY w h K) : XOk K mg xd_NothingLeft := xall_ok (d := xd_NothingLeft) X G (y.t.d.fact 134 (f := .glo "NothingLeft") rfl) (more_x y.more (by simp [xsAll])) (y.fn 8 rfl) (more_third y.more) (He.free_ok X G (y.t.d.fact 15 (f := .free "super") rfl)) form_NothingLeft PySem.F.excBase_IndexError PySem.W.kxs_IndexError PySem.F.store_IndexError
theorem exs_of (X : K.In h) (G : h.Ns mainGlobals mg) (y : SaysY w h K) : Exs lawP K mg (csOf K) := ⟨(x_Circular X G y).1, (x_NameInUse X G y).1, (x_Full X G y).1, (x_UnknownName X G y).1, (x_NothingLeft X G y).1⟩
theorem sees_of (X : K.In h) (G : h.Ns mainGlobals mg) (y : SaysY w h K) : Sees K mg (csOf K) := by
  refine ⟨He.glo_ok X G (y.t.d.fact 132 (f := .glo "GroundError") rfl), He.glo_ok X G (y.t.d.fact 133 (f := .glo "Missing") rfl), He.glo_ok X G (y.t.d.fact 134 (f := .glo "NothingLeft") rfl), ?_, ?_, ?_, ?_, ?_⟩
  · obtain ⟨_, a, b, d, e⟩ := x_Circular X G y
    exact ⟨a, b, d, e⟩
  · obtain ⟨_, a, b, d, e⟩ := x_NameInUse X G y
    exact ⟨a, b, d, e⟩
  · obtain ⟨_, a, b, d, e⟩ := x_Full X G y
    exact ⟨a, b, d, e⟩
  · obtain ⟨_, a, b, d, e⟩ := x_UnknownName X G y
    exact ⟨a, b, d, e⟩
  · obtain ⟨_, a, b, d, e⟩ := x_NothingLeft X G y
    exact ⟨a, b, d, e⟩
theorem law_of (X : K.In h) (G : h.Ns mainGlobals mg) (y : SaysY w h K) : ∃ fd : FuncData, mg "law" = some (.ref (ga K "law")) ∧ FnP K "law" "law" s_law (ga K "law") fd ∧ fd.code = .ref (He.cT K ("law", none)).1 := by
  obtain ⟨fd, F⟩ := y.t.d.def_ 76 (d := df_law) rfl
  refine ⟨fd, (He.glo_ok X G (y.t.d.fact 131 (f := .glo "law") rfl)), F, ?_⟩
  obtain ⟨oc, od, dV, kV, doc, pm, an, cdv, ct, osl, rfl, lk, hcd, _, _⟩ := F.ex
  obtain ⟨c, rfl⟩ := He.codeIn_ref hcd
  show Value.ref c = .ref (He.codeOf K ("law", none))
  rw [He.codeOf_eq (p := ("law", none)) lk rfl]
theorem app_of (X : K.In h) (G : h.Ns mainGlobals mg) (y : SaysY w h K) : ∃ (g : Addr) (fd : FuncData), mg "_law_applier" = some (.ref g) ∧ FnP K "_law_applier" "_law_applier" s__law_applier g fd ∧ fd.code = .ref (He.cT K ("_law_applier", none)).1 := by
  obtain ⟨fd, F⟩ := y.t.d.def_ 45 (d := df__law_applier) rfl
  refine ⟨_, fd, He.glo_ok X G (y.t.d.fact 75 (f := .glo "_law_applier") rfl), F, ?_⟩
  obtain ⟨oc, od, dV, kV, doc, pm, an, cdv, ct, osl, rfl, lk, hcd, _, _⟩ := F.ex
  obtain ⟨c, rfl⟩ := He.codeIn_ref hcd
  show Value.ref c = .ref (He.codeOf K ("_law_applier", none))
  rw [He.codeOf_eq (p := ("_law_applier", none)) lk rfl]
end

/-! ### the looks joined -/
open PySem.W PySem.Calls
noncomputable def obY (s : SharedT) : AlY := obsY (HandSHeadRun.getT s)
theorem obY_eq (s : SharedT) : obY s = hookY.obs s.abs := obsY_eq (HandSHeadRun.getT_eq s)
theorem obY_both (s : SharedT) : obY s = (((((ob1 s && ob4 s), (ob3 s).1), (ob3 s).2), (ob2 s).1), (ob2 s).2) := by
  unfold obY ob1 ob2 ob3 ob4 obsY
  rw [withAs_eq, withAs_eq, withAs_eq, withAs_eq, withAs_eq, frK_eq, frK_eq, frK_eq, frK_eq, frK_eq]
  rfl
theorem run_join {w : World} (a : RunA w) (z : RunS w) (b : RunB w) (b4 : RunE w) (c : RunC w) (d : RunD w) : HandSHeadRun.RunEq lawRow (view lawRow.prog [113]) hookY obY 20000 looseN w := by
  intro os
  show (lawEnd w os).map _ = _
  have a := a os
  have z := z os
  have b := b os
  have b4 := b4 os
  have c := c os
  have d := d os
  cases e : lawEnd w os with
  | none =>
    rw [e] at a
    cases a
  | some s =>
    rw [e] at a z b b4 c d
    have b := Option.some.inj b
    have b4 := Option.some.inj b4
    have c := Option.some.inj c
    have d := Option.some.inj d
    refine congrArg some (Prod.ext (Option.some.inj a) (Prod.ext (Option.some.inj z) ?_))
    show obY s = valY w
    rw [obY_both, b, b4, c, d]
    rfl
theorem law_run (w : World) : HandSHeadRun.RunEq lawRow (view lawRow.prog [113]) hookY obY 20000 looseN w := run_join (byRow2 "special-get-raises" runA_f runA_t w) (byRow2 "special-get-raises" runS_f runS_t w) (byRow2 "special-get-raises" runB_f runB_t w) (byRow2 "special-get-raises" runE_f runE_t w) (byRow2 "special-get-raises" runC_f runC_t w) (byRow2 "special-get-raises" runD_f runD_t w)
end AG
namespace AG
open PySem PySem.Spec PyProof.Rows L2
theorem law_at {w : World} {h : Heap} {K : PySem.W.Frag} {mg : Str → Option Value} {fa : Addr} (X : K.In h) (G : h.Ns mainGlobals mg) (y : SaysY w h K) (hfa : mg ("law" : Str) = some (.ref fa)) :
    LamX.LawAtS PySem.Challenge.rw_addedgrounds_k59_whole_steps_of_deeds w K CX0 21 63 "_law_script_z" mg fa h := by
  obtain ⟨fd, gl, F, hc⟩ := law_of X G y
  have e := hfa.symm.trans gl
  cases e
  have mL : (("law", none) : He.Defn) ∈ tfAll := by simp [tfAll]
  have mA : (("_law_applier", none) : He.Defn) ∈ tfAll := by simp [tfAll]
  have b := FunD.bindsA (ps := ["_law_script_z"]) F fun _ _ _ _ _ _ us hl => match us, hl with | [_], _ => rfl
  have two : ∀ {P : Addr × Addr → Prop}, (∀ p ∈ tfAll, P (He.cT K p)) → ∀ p ∈ [He.cT K ("law", none), He.cT K ("_law_applier", none)], P p := fun {P} q p hp => by
    rcases List.mem_cons.mp hp with z | z
    · rw [z]
      exact q _ mL
    · rw [List.mem_singleton.mp z]
      exact q _ mA
  refine ⟨fd, [He.cT K ("law", none), He.cT K ("_law_applier", none)], spLaw K (He.cT K ("law", none)).2 (He.cT K ("_law_applier", none)).2, two (P := fun p => h.get? p.2 = some { cls := .none, data := .fields #[] }) y.empty, two (P := fun p => K.lookup p.2 = none) y.out, two (P := fun p => PySem.W.CodeHd h p.1 p.2) fun p hp => PySem.W.codeHd_of_K X (y.hd p hp), fun s v => b s [v] rfl, fun H a ns hl _ hT hS => ⟨a, ns, rfl, hS, hl, ⟨hT _ List.mem_cons_self, hT _ (List.mem_cons_of_mem _ List.mem_cons_self)⟩, fun _ => rfl⟩, fun base _ _ hTB => ?_⟩
  exact law_ok (txt_of X G y) (sees_of X G y) (exs_of X G y) ⟨hTB _ List.mem_cons_self, hTB _ (List.mem_cons_of_mem _ List.mem_cons_self), app_of X G y⟩ y.apart F hc
end AG
open PySem PySem.W PySem.Calls PyProof.Rows
theorem PySem.Challenge.cw_addedgrounds_k59_whole_steps_of_deeds_holds : PySem.Challenge.rw_addedgrounds_k59_whole_steps_of_deeds.Holds := by
  w_on; o_law
  refine HandSHeadRun.head_any (r := AG.lawRow) (q := view AG.lawRow.prog [113]) (H := AG.hookY) (ob := AG.obY) (M := 20000) (loose := AG.looseN) (d := HandSHeadRun.topDef AG.lawRow.prog 113) (kwd := []) AG.obY_eq
    (by kernel_rfl) (fun s => by kernel_rfl) AG.law_run (by kernel_rfl) (by kernel_rfl) (by kernel_rfl) (by rfl) (by first | assumption | decide +kernel) (by decide +kernel) ⟨rfl, rfl, rfl, rfl, rfl, by decide +kernel⟩ ?hw ?hc
  case hw => w_witness2
  case hc =>
    refine LamX.walk_ofTsE (l := PySem.Challenge.rw_addedgrounds_k59_whole_steps_of_deeds) (n := 63) (k := 21) (x := "_law_script_z") (CX := fun _ => L2.CX0) rfl (by decide) (by kernel_rfl) ⟨rfl, by decide, by decide⟩ ?F (fun _ _ _ _ _ z => z)
    intro w mg fa h Y G hmg0
    obtain ⟨K, KX, y⟩ := Y
    have hmg : mg ("law" : PySem.Str) = some (.ref fa) := by
      have e : (HandSHeadRun.topDef AG.lawRow.prog 113).name = ("law" : PySem.Str) := by kernel_rfl
      rw [← e]
      exact hmg0
    exact ⟨K, KX, AG.law_at KX G y hmg⟩
#print axioms PySem.Challenge.cw_addedgrounds_k59_whole_steps_of_deeds_holds
