import PyProof.Rows.All
import Wide.All
import OpenK.AllK
import Wide.FinOn
import HandS.ForMost
import HandS.Exc
import HandS.ExcOwn
import HandS.ExcInit
import HandS.WordsExc
import HandS.TryMany
import HandS.Wide
import HandS.IsInst
import PyProof.ReprRoads
import HandS.Lambda
import HandS.EndTab
import HandS.Gcd
import HandS.Style
import HandS.WideBits
import HandS.TupAny
import HandS.TupMul
import HandS.ExcField
import PyProof.ReprBulk
import HandS.Zip
import PyProof.P3In
import PySem.Challenge.RW_drawproofs_k22_whole_roots_with_roots
set_option Elab.async false
set_option linter.all false
set_option maxRecDepth 100000
set_option maxHeartbeats 2000000
/-! DL0: promises of defs for runs around which nothing is being shown (so that repr may be asked). Own work over HandS. -/
namespace DL
open PySem PySem.Spec PyProof.Rows L2

/-- a def's promise, for calls around which no repr runs -/
structure FnG (P : Program) (w : World) (K : PySem.W.Frag) (mg : Str → Option Value) (base : Heap) (k : Nat) (f : Addr) (fd : FuncData) (ps : List Str) (sp : Sp) : Prop where
  len : ∀ vs H Q E, sp vs H Q E → vs.length = ps.length
  run : ∀ (A : Around) (outer : List Env) (s : Shared) (H : Hp) (args : Args) (us : List Value) (vs : List V) (Q : VK) (E : XK), A.guards = some [] → Room k A → Env0 P w K mg base A outer s H → BindsTo s fd args (ps.zip us) → Vals vs us → sp vs H Q E →
    codeAny (model P w) A (.call (.ref f) args) (CR (L2.CX P w) outer P w H s Q E) s
section
variable {P : Program} {w : World} {K : PySem.W.Frag} {mg : Str → Option Value} {base : Heap}
theorem FnG.mono {j k : Nat} {f : Addr} {fd : FuncData} {ps : List Str} {sp : Sp} (F : FnG P w K mg base j f fd ps sp) (h : j ≤ k) : FnG P w K mg base k f fd ps sp :=
  ⟨F.len, fun A outer s H args us vs Q E hg hr => F.run A outer s H args us vs Q E hg (hr.mono h)⟩
theorem FnG.imp {k : Nat} {f : Addr} {fd : FuncData} {ps : List Str} {sp sp' : Sp} (F : FnG P w K mg base k f fd ps sp) (h : ∀ vs H Q E, sp' vs H Q E → sp vs H Q E) : FnG P w K mg base k f fd ps sp' :=
  ⟨fun vs H Q E q => F.len vs H Q E (h _ _ _ _ q), fun A outer s H args us vs Q E hg hr he hb hv hs => F.run A outer s H args us vs Q E hg hr he hb hv (h _ _ _ _ hs)⟩
/-- by the body; what is around the call may be told of it -/
theorem FnG.of {x qual : Str} {st : Stmt} {f : Addr} {fd : FuncData} {N ps : List Str} {k : Nat} {sp : Sp} (F : Fun K x qual st f fd) (S : FnScope N ps (defScope st)) (len : ∀ vs H Q E, sp vs H Q E → vs.length = ps.length)
    (body : ∀ (cdv : Value), fd.code = cdv → ∀ (A : Around) (outer : List Env) (s : Shared) (H : Hp) (vs : List V) (Q : VK) (E : XK), A.guards = some [] → Room k (A.deeper (envOfC qual (defScope st) s.heap.objs.size f cdv)) → sp vs H Q E →
      ∃ t, PSs (cxOf (L2.CX P w) P w K mg base N qual (defScope st) f cdv A outer s H E) (defBody st) t ∧ t { nx := fun _ H' => Q .non H', rt := Q } (L2.start N vs) H) : FnG P w K mg base (k + 1) f fd ps sp := by
  obtain ⟨oc, od, kV, doc, pm, an, cdv, ct, osl, rfl, lk, hcd⟩ := F.ex
  refine ⟨len, fun A outer s H args us vs Q E hg hr e0 hb r hsp => ?_⟩
  -- the same def, its promise cut down to this very call
  let one : Sp := fun vs' H' Q' E' => vs' = vs ∧ H' = H ∧ Q' = Q ∧ E' = E
  have hl := len _ _ _ _ hsp
  have KX : K.In s.heap := e0.mod.kin.keeps fun b o e => (e0.bs b o e).1
  have lim : s.heap.NoLimit := e0.mod.nolimit.keeps fun b o e => (e0.bs b o e).1
  have kinds : ∀ y ∈ ps.zip us, (defScope st).names.lookup y.1 = some .local ∨ ((defScope st).names.lookup y.1 = some .cell ∧ ((cellsFrom (s.heap.objs.size + 1) (defScope st).names []).lookup y.1).isSome = true) := by
    rintro ⟨n, v⟩ hy
    have hn := S.par n (List.of_mem_zip hy).1
    exact hn.imp id fun q => ⟨q, PySem.W.cellsFrom_some _ _ _ (.inl q)⟩
  obtain ⟨t, ht, hq⟩ := body cdv rfl A outer s H vs Q E hg (hr.deeper _) hsp
  refine codeAny_call_function hr.depth (KX _ _ lk) rfl S.co S.gen rfl (PySem.W.codeRec_of KX hcd) (hb _ _ _ _ (wpAny_newFunctionEnv_cells S.kind kinds fun env he s1 x => ?_))
  subst he
  have I : Inv (cxOf (L2.CX P w) P w K mg base N qual (defScope st) f cdv A outer s H E) [] (start N vs) H s1 := inv_start S hr.hd e0 hl r x
  refine ⟨lim.keeps x.toInCall.keep, codeAny_func (wpAny_mono (ht.run [] s1 _ H _ I hq) (fun fl s' hs => ?_) fun _ _ z => z)⟩
  cases fl with
  | ret u => obtain ⟨v, σ', H', J, rv, q⟩ := hs; exact ⟨v, H', J.os, J.bare, J.base, J.hok, rv, q⟩
  | next => obtain ⟨σ', H', J, q⟩ := hs; exact ⟨V.non, H', J.os, J.bare, J.base, J.hok, (rfl : RelV V.non Value.none), q⟩
  | brk => obtain ⟨_, _, _, q⟩ := hs; exact q.elim
  | cont => obtain ⟨_, _, _, q⟩ := hs; exact q.elim
end
section
variable {X : Cx} {k : Nat} {f C : Addr} {fd : FuncData} {ps : List Str} {sp : Sp} {x : Str} {p pos : Pos} {e : Expr} {es : List Expr} {t : TA} {W : WX}
theorem run_G {pins : List (Addr × Obj)} {σ : L2.St} {H : Hp} {s : Shared} {Q : VK} {us : List Value} {vs : List V} {E : XK} (F : FnG X.prog X.w X.K X.mg X.base k f fd ps sp) (hgd : X.A.guards = some []) (hr : Room k X.A) (hb : Binds X.K fd ps [])
    (hx : PassesAt (L2.CX X.prog X.w) X σ E) (I : Inv X pins σ H s) (r : Vals vs us) (h : sp vs H Q E) : wpAny (model X.prog X.w) X.A (call (.ref f) us) (EP X pins σ Q) X.xe s := by
  have hl : us.length = ps.length := by rw [← r.length]; exact F.len _ _ _ _ h
  have b := hb s us I.kIn (by rw [List.append_nil]; exact hl)
  rw [List.append_nil] at b
  have c := F.run X.A X.stack s H ⟨us, []⟩ us vs Q E hgd hr I.env0 b r h
  refine wpAny_call (codeAny_mono c fun res s' hq => ?_)
  match res, hq with
  | .error er, hq => exact hx pins H s er s' I hq
  | .ok (.ret u), hq => exact I.after hq
theorem pe_callG (F : FnG X.prog X.w X.K X.mg X.base k f fd ps sp) (hgd : X.A.guards = some []) (hr : Room k X.A) (tk : Takes X W) (hg : Gl X x) (hm : X.mg x = some (.ref f)) (hk : PySem.W.keepIn X.K (.ref f) = true) (hb : Binds X.K fd ps [])
    (ha : PA X (e :: es) t) (hdb : (x == ("__debug__" : Str)) = false := by decide) (he : starEach (e :: es) X.env = (false, eval e X.env) :: starEach es X.env := by rfl) (hpl : (backTo pos (starEach es X.env)).any (·.1) = false := by rfl) :
    PE X (.Call (.Name x p) (e :: es) [] pos) (tCallS sp (WE W) t) := by
  refine ⟨fun pins s σ H Q I h => wpAny_Call_Name_kw (ld_glob I hg hm ?_ hdb)⟩
  refine PySem.W.callWith_K (h₀ := X.base) I.ok.mod.kin hk (thn (ha.run pos pins s σ H _ I h) ?_) he hpl
  rintro us s1 ⟨vs, H1, I1, r, q⟩
  exact ⟨I1.kIn, run_G F hgd hr hb (passAt tk σ) I1 r q⟩
theorem pe_callG0 (F : FnG X.prog X.w X.K X.mg X.base k f fd ps sp) (hgd : X.A.guards = some []) (hr : Room k X.A) (tk : Takes X W) (hg : Gl X x) (hm : X.mg x = some (.ref f)) (hk : PySem.W.keepIn X.K (.ref f) = true) (hb : Binds X.K fd ps [])
    (hdb : (x == ("__debug__" : Str)) = false := by decide) : PE X (.Call (.Name x p) [] [] pos) (tCallS sp (WE W) tNil) := by
  refine ⟨fun pins s σ H Q I h => wpAny_Call_Name_kw (ld_glob I hg hm ?_ hdb)⟩
  exact PySem.W.callWith_K0 I.kIn hk (run_G (us := []) F hgd hr hb (passAt tk σ) I .nil h)
end

end DL


set_option maxRecDepth 100000
set_option maxHeartbeats 2000000
/-! DL1: plain data over the abstract heap; a wp-monad; judgements of expressions by data. Own work. -/
namespace DL
open PySem PySem.Spec PyProof.Rows L2

/-- a lambda without parameters, as it lies -/
structure CloR where
  qual : Str
  params : Arguments
  body : Expr
  scope : Scope
  cl : List (Str × Addr)
  pm : Value
  code : Addr
  ctv : Value
abbrev CloR.obj (r : CloR) : Obj := PySem.W.kla_obj "<lambda>" r.qual r.params r.body r.scope r.cl r.pm r.code r.ctv
/-- the very object o stands at a -/
def FixO (a : Addr) (o : Obj) : HO := .ext fun h => h.get? a = some o
/-- a code object of the name q stands at c -/
def CodO (c : Addr) (q : Str) : HO := .ext fun h => ∃ (oc : Obj) (vs : Array Value) (t : Tok), h.get? c = some oc ∧ oc.data = .fields vs ∧ vs[1]? = some (.str q t)
/-- plain data -/
inductive D where
  | non | bl (b : Bool) | int (i : Int) | str (x : Str)
  | tup (ds : List D) | lst (ds : List D) | dic (ks : List Key) (ds : List D)
  | obj (C : Addr) (ns : List Str) (ds : List D) | exc (C : Addr) (ns : List Str) (ds : List D) | pen
  /-- a lambda; its captured values are known (b), or not yet -/
  | clo (b : Bool) (r : CloR) (ds : List D)
  /-- a def of the program as a value -/
  | fnA (a : Addr)
  /-- the script -/
  | scr (K : PySem.W.Frag) (ns : List Int) (tabs : List Addr)

/-- a pen's numbers -/
structure Pen where
  at_ : Int
  dg : Int
  ct : Int
  fd : Int
def penK (c : Addr) (p : Pen) : List (Key × V) := [(.inr "cells", .ref c), (.inr "at", .int p.at_), (.inr "digits", .int p.dg), (.inr "count", .int p.ct), (.inr "fold", .int p.fd)]
structure Pen.Ok (p : Pen) : Prop where
  at0 : 0 ≤ p.at_
  dg0 : 0 ≤ p.dg
  ct0 : 0 ≤ p.ct
  fd0 : 0 ≤ p.fd
  fd1 : p.fd < 2147483123
/-- the first key of a pen -/
def isPen (kvs : List (Key × V)) : Bool := match kvs with
  | (.inr k, _) :: _ => k == ("cells" : Str)
  | _ => false
theorem isPen_pen (c : Addr) (p : Pen) : isPen (penK c p) = true := rfl
theorem penK_inj {c c' : Addr} {p p' : Pen} (h : penK c p = penK c' p') : c = c' ∧ p = p' := by
  obtain ⟨a1, a2, a3, a4⟩ := p
  obtain ⟨b1, b2, b3, b4⟩ := p'
  simp only [penK, List.cons.injEq, Prod.mk.injEq, V.ref.injEq, V.int.injEq, true_and, and_true] at h
  obtain ⟨rfl, rfl, rfl, rfl, rfl⟩ := h
  exact ⟨rfl, rfl⟩

mutual
/-- v stands for d in H; F: what is never changed -/
inductive Has (F : Addr → Prop) (H : Hp) : V → D → Prop
  | non : Has F H .non .non
  | bl (b : Bool) : Has F H (.bl b) (.bl b)
  | int (i : Int) : Has F H (.int i) (.int i)
  | str (x : Str) : Has F H (.str x) (.str x)
  | tup {a : Addr} {vs : List V} {ds : List D} : F a → H a = some (.tup vs) → HasL F H vs ds → Has F H (.ref a) (.tup ds)
  | lst {a : Addr} {vs : List V} {ds : List D} : F a → H a = some (.lst vs) → HasL F H vs ds → Has F H (.ref a) (.lst ds)
  | dic {a : Addr} {kvs : List (Key × V)} {ks : List Key} {ds : List D} : F a → H a = some (.dK kvs) → isPen kvs = false → kvs.map (·.1) = ks → HasL F H (kvs.map (·.2)) ds → Has F H (.ref a) (.dic ks ds)
  | obj {a C dx : Addr} {fs : List (Str × V)} {ns : List Str} {ds : List D} : F a → H a = some (.ins C dx fs) → fs.map (·.1) = ns → HasL F H (fs.map (·.2)) ds → Has F H (.ref a) (.obj C ns ds)
  | pen {a c : Addr} {p : Pen} {ns : List Int} : F a → H a = some (.dK (penK c p)) → p.Ok → F c → H c = some (.lst (ns.map V.int)) → ns.length ≤ 63 → Has F H (.ref a) .pen
  | clo0 {a : Addr} {r : CloR} {ds : List D} : F a → H a = some (FixO a r.obj) → F r.code → H r.code = some (CodO r.code r.qual) → Has F H (.ref a) (.clo false r ds)
  | clo1 {a : Addr} {r : CloR} {vs : List V} {ds : List D} : F a → H a = some (FixO a r.obj) → F r.code → H r.code = some (CodO r.code r.qual) → vs.length = r.cl.length → (∀ p ∈ r.cl.zip vs, F p.1.2 ∧ ∃ u o, RelV p.2 u ∧ o.data = .cell (some u) ∧ H p.1.2 = some (FixO p.1.2 o)) → HasL F H vs ds → Has F H (.ref a) (.clo true r ds)
  | fnA (a : Addr) : Has F H (.ref a) (.fnA a)
  | scr {a : Addr} {K : PySem.W.Frag} {ns : List Int} {tabs : List Addr} : ((∃ o, F a ∧ H a = some (.frz o (.lst (ns.map V.int)))) ∨ ∀ H' : Hp, SqL K H' a (ns.map V.int)) → (∀ P ∈ tabs, F P ∧ ∃ ps, H P = some (.tbl ps)) → Has F H (.ref a) (.scr K ns tabs)
inductive HasL (F : Addr → Prop) (H : Hp) : List V → List D → Prop
  | nil : HasL F H [] []
  | cons {v : V} {d : D} {vs : List V} {ds : List D} : Has F H v d → HasL F H vs ds → HasL F H (v :: vs) (d :: ds)
end

/-- the full name of the law's lambdas -/
def qLam : Str := "law.<locals>.<lambda>"
/-- a table of code objects of the law's lambdas -/
structure TblOk (F : Addr → Prop) (H : Hp) (ps : Array Value) : Prop where
  tr : TriplesOk ps.toList
  at_ : ∀ (pos : Pos) (cv : Value), codeAmong pos ps.toList = some cv → ∃ c, cv = .ref c ∧ F c ∧ H c = some (CodO c qLam)
theorem TblOk.mono {F F' : Addr → Prop} {H H' : Hp} {ps : Array Value} (t : TblOk F H ps) (h1 : ∀ c, F c → F' c) (h2 : ∀ c, F c → H c = some (CodO c qLam) → H' c = some (CodO c qLam)) : TblOk F' H' ps :=
  ⟨t.tr, fun pos cv e => let ⟨c, e1, f, e2⟩ := t.at_ pos cv e; ⟨c, e1, h1 c f, h2 c f e2⟩⟩
/-- no pen has been asked more than n times; F is of what is there; the tables are in order -/
structure PenB (F : Addr → Prop) (H : Hp) (n : Nat) : Prop where
  ct : ∀ a c p, H a = some (.dK (penK c p)) → p.ct ≤ (n : Int)
  dom : ∀ a, F a → ∃ o, H a = some o
  tb : ∀ P ps, H P = some (.tbl ps) → TblOk F H ps
/-- an object that stands, but that a pen was asked, that a table of code objects grew -/
def Soft (o : HO) (q : Option HO) : Prop := q = some o ∨ (∃ c p p', o = .dK (penK c p) ∧ q = some (.dK (penK c p')) ∧ (p.Ok → p'.Ok)) ∨ ∃ ps more, o = .tbl ps ∧ q = some (.tbl (ps ++ more))
/-- neither a pen nor a table -/
structure Hard (o : HO) : Prop where
  pen : ∀ c p, o ≠ .dK (penK c p)
  tbl : ∀ ps, o ≠ .tbl ps
theorem Soft.hard {o : HO} {q : Option HO} (s : Soft o q) (h : Hard o) : q = some o := by
  rcases s with s | ⟨c, p, _, e, _⟩ | ⟨ps, _, e, _⟩
  · exact s
  · exact absurd e (h.pen c p)
  · exact absurd e (h.tbl ps)
theorem Soft.trans {o : HO} {H H' : Hp} {a : Addr} (s : Soft o (H a)) (k : ∀ u, H a = some u → Soft u (H' a)) : Soft o (H' a) := by
  rcases s with s | ⟨c, p, p', e, s, ok⟩ | ⟨ps, more, e, s⟩
  · exact k _ s
  · rcases k _ s with s2 | ⟨c2, p2, p2', e2, s2, ok2⟩ | ⟨ps, more, e2, s2⟩
    · exact .inr (.inl ⟨c, p, p', e, s2, ok⟩)
    · obtain ⟨rfl, rfl⟩ := penK_inj (HO.dK.inj e2)
      exact .inr (.inl ⟨c, p, p2', e, s2, fun z => ok2 (ok z)⟩)
    · cases e2
  · rcases k _ s with s2 | ⟨c2, p2, p2', e2, s2, ok2⟩ | ⟨ps2, more2, e2, s2⟩
    · exact .inr (.inr ⟨ps, more, e, s2⟩)
    · cases e2
    · cases e2
      exact .inr (.inr ⟨ps, more ++ more2, e, by rw [s2, Array.append_assoc]⟩)
theorem Soft.some {o : HO} {q : Option HO} (s : Soft o q) : q ≠ none := by
  rcases s with s | ⟨_, _, _, _, s, _⟩ | ⟨_, _, _, s⟩ <;> rw [s] <;> simp
theorem Hard.tup {xs : List V} : Hard (.tup xs) := ⟨fun _ _ e => (by cases e), fun _ e => (by cases e)⟩
theorem Hard.lst {xs : List V} : Hard (.lst xs) := ⟨fun _ _ e => (by cases e), fun _ e => (by cases e)⟩
theorem Hard.ins {C d : Addr} {fs : List (Str × V)} : Hard (.ins C d fs) := ⟨fun _ _ e => (by cases e), fun _ e => (by cases e)⟩
theorem Hard.xd {fs : List (Str × V)} : Hard (.xd fs) := ⟨fun _ _ e => (by cases e), fun _ e => (by cases e)⟩
theorem Hard.ext {φ : Heap → Prop} : Hard (.ext φ) := ⟨fun _ _ e => (by cases e), fun _ e => (by cases e)⟩
theorem Hard.frz {o : Obj} {u : HO} : Hard (.frz o u) := ⟨fun _ _ e => (by cases e), fun _ e => (by cases e)⟩
theorem Hard.dK {kvs : List (Key × V)} (h : isPen kvs = false) : Hard (.dK kvs) := ⟨fun c p e => (by cases e; cases h), fun _ e => (by cases e)⟩
/-- what stood stands, but that pens were asked; F' is F and new ones -/
structure Grow (F : Addr → Prop) (H : Hp) (n : Nat) (F' : Addr → Prop) (H' : Hp) (n' : Nat) : Prop where
  keep : ∀ a o, H a = some o → Soft o (H' a)
  sub : ∀ a, F a → F' a
  new : ∀ a, F' a → F a ∨ H a = none
  pb : PenB F' H' n'
  le : n ≤ n'

theorem Grow.keepL {F F' : Addr → Prop} {H H' : Hp} {n n' : Nat} (g : Grow F H n F' H' n') {a : Addr} {o : HO} (h : H a = some o) (hn : Hard o) : H' a = some o := (g.keep a o h).hard hn

/-- what stood in F stands, but that pens were asked; F' has F -/
structure Later (F : Addr → Prop) (H : Hp) (n : Nat) (F' : Addr → Prop) (H' : Hp) (n' : Nat) : Prop where
  keep : ∀ a o, F a → H a = some o → Soft o (H' a)
  sub : ∀ a, F a → F' a
  le : n ≤ n'
theorem Grow.later {F F' : Addr → Prop} {H H' : Hp} {n n' : Nat} (g : Grow F H n F' H' n') : Later F H n F' H' n' := ⟨fun a o _ h => g.keep a o h, g.sub, g.le⟩
theorem Later.keepL {F F' : Addr → Prop} {H H' : Hp} {n n' : Nat} (g : Later F H n F' H' n') {a : Addr} {o : HO} (f : F a) (h : H a = some o) (hn : Hard o) : H' a = some o := (g.keep a o f h).hard hn
theorem Later.refl {F : Addr → Prop} {H : Hp} {n : Nat} : Later F H n F H n := ⟨fun _ _ _ h => .inl h, fun _ h => h, Nat.le_refl _⟩
theorem Later.trans {F F1 F2 : Addr → Prop} {H H1 H2 : Hp} {n n1 n2 : Nat} (a : Later F H n F1 H1 n1) (b : Later F1 H1 n1 F2 H2 n2) : Later F H n F2 H2 n2 where
  keep := fun x o f h => (a.keep x o f h).trans fun u e => b.keep x u (a.sub x f) e
  sub := fun x h => b.sub x (a.sub x h)
  le := Nat.le_trans a.le b.le

mutual
theorem Has.later {F F' : Addr → Prop} {H H' : Hp} {n n' : Nat} (g : Later F H n F' H' n') : ∀ {v : V} {d : D}, Has F H v d → Has F' H' v d
  | _, _, .non => .non
  | _, _, .bl b => .bl b
  | _, _, .int i => .int i
  | _, _, .str x => .str x
  | _, _, .tup f h l => .tup (g.sub _ f) (g.keepL f h .tup) (HasL.later g l)
  | _, _, .lst f h l => .lst (g.sub _ f) (g.keepL f h .lst) (HasL.later g l)
  | _, _, .dic f h q k l => .dic (g.sub _ f) (g.keepL f h (.dK q)) q k (HasL.later g l)
  | _, _, .fnA a => .fnA a
  | _, _, .obj f h k l => .obj (g.sub _ f) (g.keepL f h .ins) k (HasL.later g l)
  | _, _, .pen f h ok fc hc hl => by
    have hc' := g.keepL fc hc .lst
    rcases g.keep _ _ f h with h | ⟨c, p, p', e, h, k⟩ | ⟨ps, _, e, _⟩
    · exact .pen (g.sub _ f) h ok (g.sub _ fc) hc' hl
    · obtain ⟨rfl, rfl⟩ := penK_inj (HO.dK.inj e)
      exact .pen (g.sub _ f) h (k ok) (g.sub _ fc) hc' hl
    · cases e
  | _, _, .clo0 f h fc hc => .clo0 (g.sub _ f) (g.keepL f h .ext) (g.sub _ fc) (g.keepL fc hc .ext)
  | _, _, .clo1 f h fc hc hl hs l => .clo1 (g.sub _ f) (g.keepL f h .ext) (g.sub _ fc) (g.keepL fc hc .ext) hl (fun p hp => let ⟨a, u, o, r, dd, e⟩ := hs p hp; ⟨g.sub _ a, u, o, r, dd, g.keepL a e .ext⟩) (HasL.later g l)
  | _, _, .scr h ht => .scr (h.imp_left fun ⟨o, f, e⟩ => ⟨o, g.sub _ f, g.keepL f e .frz⟩) fun P hP => by
    obtain ⟨f, ps, e⟩ := ht P hP
    refine ⟨g.sub _ f, ?_⟩
    rcases g.keep _ _ f e with e | ⟨_, _, _, e, _⟩ | ⟨_, more, _, e⟩
    · exact ⟨ps, e⟩
    · cases e
    · exact ⟨_, e⟩
theorem HasL.later {F F' : Addr → Prop} {H H' : Hp} {n n' : Nat} (g : Later F H n F' H' n') : ∀ {vs : List V} {ds : List D}, HasL F H vs ds → HasL F' H' vs ds
  | _, _, .nil => .nil
  | _, _, .cons h l => .cons (Has.later g h) (HasL.later g l)
end
theorem Has.mono {F F' : Addr → Prop} {H H' : Hp} {n n' : Nat} (g : Grow F H n F' H' n') {v : V} {d : D} (h : Has F H v d) : Has F' H' v d := h.later g.later
theorem HasL.mono {F F' : Addr → Prop} {H H' : Hp} {n n' : Nat} (g : Grow F H n F' H' n') {v : List V} {d : List D} (h : HasL F H v d) : HasL F' H' v d := h.later g.later

theorem Grow.trans {F F1 F2 : Addr → Prop} {H H1 H2 : Hp} {n n1 n2 : Nat} (a : Grow F H n F1 H1 n1) (b : Grow F1 H1 n1 F2 H2 n2) : Grow F H n F2 H2 n2 where
  keep := fun x o h => (a.keep x o h).trans fun u e => b.keep x u e
  sub := fun x h => b.sub x (a.sub x h)
  new := fun x h => by
    rcases b.new x h with h | h
    · exact a.new x h
    · refine .inr ?_
      cases q : H x with
      | none => rfl
      | some o => exact absurd h (a.keep x o q).some
  pb := b.pb
  le := Nat.le_trans a.le b.le
theorem Grow.refl {F : Addr → Prop} {H : Hp} {n : Nat} (pb : PenB F H n) : Grow F H n F H n := ⟨fun _ _ h => .inl h, fun _ h => h, fun _ h => .inl h, pb, Nat.le_refl _⟩
/-- F and p -/
def plusF (F : Addr → Prop) (p : Addr) : Addr → Prop := fun a => F a ∨ a = p
/-- a new object is laid, never to be changed -/
theorem Grow.laid {F : Addr → Prop} {H : Hp} {n : Nat} {p : Addr} {o : HO} (pb : PenB F H n) (hp : H p = none) (hn : Hard o) : Grow F H n (plusF F p) (upd H p o) n where
  keep := fun a u h => .inl (by rw [upd_ne (ne_of_none h hp)]; exact h)
  sub := fun a h => .inl h
  new := fun a h => h.elim .inl fun e => .inr (by rw [e]; exact hp)
  pb := ⟨fun a c q h => by
    by_cases e : a = p
    · subst e
      rw [upd_same] at h
      exact absurd (Option.some.inj h) (hn.pen c q)
    · rw [upd_ne e] at h
      exact pb.ct a c q h, fun a f => by
    by_cases e : a = p
    · subst e
      exact ⟨_, upd_same⟩
    · rw [upd_ne e]
      exact pb.dom a (f.resolve_right e), fun P ps e => by
    by_cases hP : P = p
    · subst hP
      rw [upd_same] at e
      exact absurd (Option.some.inj e) (hn.tbl ps)
    · rw [upd_ne hP] at e
      exact (pb.tb P ps e).mono (fun _ => .inl) fun c _ q => by rw [upd_ne (ne_of_none q hp)]; exact q⟩
  le := Nat.le_refl _
theorem PenB.put {F : Addr → Prop} {H : Hp} {n : Nat} {a : Addr} {o : HO} (pb : PenB F H n) (nf : ¬ F a) (hn : Hard o) : PenB F (upd H a o) n where
  ct := fun b c q h => by
    by_cases e : b = a
    · subst e
      rw [upd_same] at h
      exact absurd (Option.some.inj h) (hn.pen c q)
    · rw [upd_ne e] at h
      exact pb.ct b c q h
  dom := fun b f => by
    rw [upd_ne (fun z => nf (by rw [← z]; exact f))]
    exact pb.dom b f
  tb := fun P ps e => by
    by_cases hP : P = a
    · subst hP
      rw [upd_same] at e
      exact absurd (Option.some.inj e) (hn.tbl ps)
    · rw [upd_ne hP] at e
      exact (pb.tb P ps e).mono (fun _ f => f) fun c f q => by rw [upd_ne (fun z => nf (by rw [← z]; exact f))]; exact q
theorem PenB.sup {F F' : Addr → Prop} {H : Hp} {n : Nat} (pb : PenB F H n) (hs : ∀ b, F b → F' b) (hd : ∀ b, F' b → ∃ o, H b = some o) : PenB F' H n := ⟨pb.ct, hd, fun P ps e => (pb.tb P ps e).mono hs fun _ _ q => q⟩
theorem PenB.out {F : Addr → Prop} {H : Hp} {n : Nat} {a : Addr} (pb : PenB F H n) (h : H a = none) : ¬ F a := fun f => by
  obtain ⟨o, e⟩ := pb.dom a f
  rw [h] at e
  cases e
theorem plusF_same {F : Addr → Prop} {p : Addr} : plusF F p p := .inr rfl

/-! ### the monad -/
structure XD where
  C : Addr
  ns : List Str
  ds : List D
/-- what is wanted of a value, of an error; n: how often pens were asked -/
def Wm (α : Type) : Type := (α → Nat → Prop) → (XD → Nat → Prop) → Nat → Prop
namespace Wm
protected def pure {α : Type} (a : α) : Wm α := fun K _ n => K a n
protected def bind {α β : Type} (m : Wm α) (f : α → Wm β) : Wm β := fun K X n => m (fun a n' => f a K X n') X n
def fail {α : Type} : Wm α := fun _ _ _ => False
def raise {α : Type} (x : XD) : Wm α := fun _ X n => X x n
def need (p : Prop) : Wm Unit := fun K _ n => p ∧ K () n
instance : Monad Wm where
  pure := Wm.pure
  bind := Wm.bind
end Wm
def XFalse : XD → Nat → Prop := fun _ _ => False

/-! ### the slots -/
inductive SV where
  | d (x : D)
  /-- a list of one's own, that is changed yet -/
  | ml (ds : List D)
abbrev Env' := List (Option SV)
def HasV (F : Addr → Prop) (H : Hp) : V → SV → Prop
  | v, .d x => Has F H v x
  | v, .ml ds => ∃ a vs, v = .ref a ∧ H a = some (.lst vs) ∧ HasL F H vs ds ∧ ¬ F a
structure HasS (F : Addr → Prop) (H : Hp) (n : Nat) (σ : L2.St) (ρ : Env') : Prop where
  pb : PenB F H n
  len : σ.length = ρ.length
  at_ : ∀ (i : Nat) (x : SV), ρ[i]? = some (some x) → ∃ v, σ[i]? = some (some v) ∧ HasV F H v x
theorem HasV.mono {F F' : Addr → Prop} {H H' : Hp} {n n' : Nat} (g : Grow F H n F' H' n') {v : V} {x : SV} (h : HasV F H v x) : HasV F' H' v x := by
  cases x with
  | d x => exact Has.mono g h
  | ml ds =>
    obtain ⟨a, vs, e, ha, l, nf⟩ := h
    refine ⟨a, vs, e, g.keepL ha .lst, l.mono g, fun f => ?_⟩
    rcases g.new a f with f | f
    · exact nf f
    · rw [ha] at f; cases f
theorem HasS.mono {F F' : Addr → Prop} {H H' : Hp} {n n' : Nat} {σ : L2.St} {ρ : Env'} (h : HasS F H n σ ρ) (g : Grow F H n F' H' n') : HasS F' H' n' σ ρ :=
  ⟨g.pb, h.len, fun i x e => let ⟨v, a, b⟩ := h.at_ i x e; ⟨v, a, b.mono g⟩⟩

/-- an own error, as it lies -/
def HasX (F : Addr → Prop) (H : Hp) (cls : Value) (od : Option Addr) (x : XD) : Prop :=
  cls = .ref x.C ∧ ∃ d fs, od = some d ∧ H d = some (.xd fs) ∧ fs.map (·.1) = x.ns ∧ HasL F H (fs.map (·.2)) x.ds

/-- no starred expression -/
def plainE : Expr → Bool
  | .Starred _ _ => false
  | _ => true
theorem star_plain {e : Expr} {es : List Expr} {env : Env} (h : plainE e = true) : starEach (e :: es) env = (false, eval e env) :: starEach es env := by
  cases e <;> first | rfl | cases h
/-! ### the judgements -/
abbrev TD (α : Type) := Env' → Wm α
/-- what the reading of an expression is given -/
def RunE (W : WX) (te : TE) (t : TD D) : Prop := ∀ (F : Addr → Prop) (H : Hp) (n : Nat) (σ : L2.St) (ρ : Env') (K : D → Nat → Prop) (X : XD → Nat → Prop) (Q : VK), HasS F H n σ ρ → t ρ K X n →
  (∀ v d F' H' n', Grow F H n F' H' n' → Has F' H' v d → K d n' → Q v H') →
  (∀ cls od xd F' H' n', Grow F H n F' H' n' → HasX F' H' cls od xd → X xd n' → W cls od σ H') → te σ H Q
def RunT (W : WX) (tt : TT) (t : TD Bool) : Prop := ∀ (F : Addr → Prop) (H : Hp) (n : Nat) (σ : L2.St) (ρ : Env') (K : Bool → Nat → Prop) (X : XD → Nat → Prop) (Q : Bool → Hp → Prop), HasS F H n σ ρ → t ρ K X n →
  (∀ b F' H' n', Grow F H n F' H' n' → K b n' → Q b H') →
  (∀ cls od xd F' H' n', Grow F H n F' H' n' → HasX F' H' cls od xd → X xd n' → W cls od σ H') → tt σ H Q
def RunA (W : WX) (ta : TA) (t : TD (List D)) : Prop := ∀ (F : Addr → Prop) (H : Hp) (n : Nat) (σ : L2.St) (ρ : Env') (K : List D → Nat → Prop) (X : XD → Nat → Prop) (Q : List V → Hp → Prop), HasS F H n σ ρ → t ρ K X n →
  (∀ vs ds F' H' n', Grow F H n F' H' n' → HasL F' H' vs ds → K ds n' → Q vs H') →
  (∀ cls od xd F' H' n', Grow F H n F' H' n' → HasX F' H' cls od xd → X xd n' → W cls od σ H') → ta σ H Q
structure DE {ι : Type} (X : ι → Cx) (W : WX) (e : Expr) (t : TD D) : Prop where
  ex : ∃ te, (∀ i, PE (X i) e te) ∧ RunE W te t
structure DT {ι : Type} (X : ι → Cx) (W : WX) (e : Expr) (t : TD Bool) : Prop where
  ex : ∃ te, (∀ i, PT (X i) e te) ∧ RunT W te t
/-- .. whatever its whole is (and, or) -/
structure DW {ι : Type} (X : ι → Cx) (W : WX) (e : Expr) (t : TD Bool) : Prop where
  ex : ∃ te, (∀ i, PW (X i) e te) ∧ RunT W te t
structure DA {ι : Type} (X : ι → Cx) (W : WX) (es : List Expr) (t : TD (List D)) : Prop where
  ex : ∃ ta, (∀ i, PA (X i) es ta) ∧ RunA W ta t

section
variable {ι : Type} {X : ι → Cx} {W : WX}
/-! ### names, constants -/
def getD (i : Nat) : TD D := fun ρ => match ρ[i]? with
  | some (some (.d x)) => pure x
  | _ => Wm.fail
theorem DE.var {i : Nat} {e : Expr} (h : ∀ j, PE (X j) e (tVar i)) : DE X W e (getD i) := ⟨_, h, fun F H n σ ρ K Kx Q hs ht hq _ => by
  have ht : (match ρ[i]? with
    | some (some (.d x)) => (pure x : Wm D)
    | _ => Wm.fail) K Kx n := ht
  match e : ρ[i]? with
  | some (some (.d x)) =>
    rw [e] at ht
    obtain ⟨v, e1, e2⟩ := hs.at_ _ _ e
    exact ⟨v, e1, hq v x F H n (.refl hs.pb) e2 ht⟩
  | some (some (.ml _)) => rw [e] at ht; exact ht.elim
  | some none => rw [e] at ht; exact ht.elim
  | none => rw [e] at ht; exact ht.elim⟩
theorem DE.const {e : Expr} {v : V} {d : D} (h : ∀ j, PE (X j) e (tC v)) (hd : ∀ F H, Has F H v d) : DE X W e (fun _ => pure d) := ⟨_, h, fun F H n σ ρ K Kx Q hs ht hq _ => hq v d F H n (.refl hs.pb) (hd F H) ht⟩
theorem DE.int {i j pos} : DE X W (.Constant (.int i) j pos) (fun _ => pure (.int i)) := .const (fun _ => pe_int) fun _ _ => .int i
theorem DE.bl {b j pos} : DE X W (.Constant (.bool b) j pos) (fun _ => pure (.bl b)) := .const (fun _ => pe_bl) fun _ _ => .bl b
theorem DE.non {j pos} : DE X W (.Constant .none j pos) (fun _ => pure .non) := .const (fun _ => pe_non) fun _ _ => .non
theorem DE.str {x j pos} : DE X W (.Constant (.str x) j pos) (fun _ => pure (.str x)) := .const (fun _ => pe_str) fun _ _ => .str x

/-! ### argument lists, displays -/
theorem DA.nil : DA X W [] (fun _ => pure []) := ⟨_, fun _ => pa_nil, fun F H n σ ρ K Kx Q hs ht hq _ => hq [] [] F H n (.refl hs.pb) .nil ht⟩
theorem DA.cons {e : Expr} {es : List Expr} {t : TD D} {u : TD (List D)} (h1 : DE X W e t) (h2 : DA X W es u) (hp : plainE e = true := by rfl) :
    DA X W (e :: es) (fun ρ => do let d ← t ρ; let ds ← u ρ; pure (d :: ds)) := by
  obtain ⟨te, p1, r1⟩ := h1
  obtain ⟨ta, p2, r2⟩ := h2
  refine ⟨_, fun i => pa_cons (p1 i) (p2 i) (star_plain hp), fun F H n σ ρ K Kx Q hs ht hq hx => ?_⟩
  refine r1 F H n σ ρ _ Kx _ hs ht (fun v d F1 H1 n1 g1 hv ht1 => ?_) hx
  refine r2 F1 H1 n1 σ ρ _ Kx _ (hs.mono g1) ht1 (fun vs ds F2 H2 n2 g2 hvs ht2 => ?_) fun cls od xd F' H' n' g => hx cls od xd F' H' n' (g1.trans g)
  exact hq (v :: vs) (d :: ds) F2 H2 n2 (g1.trans g2) (.cons (hv.mono g2) hvs) ht2
theorem HasL.len {F : Addr → Prop} {H : Hp} : ∀ {vs : List V} {ds : List D}, HasL F H vs ds → vs.length = ds.length
  | _, _, .nil => rfl
  | _, _, .cons _ l => by simp [HasL.len l]
/-- at most a list's line -/
def Fits (n : Nat) : Prop := n ≤ sizeLine
theorem DE.tup {es : List Expr} {t : TD (List D)} {x1 pos} (h : DA X W es t) : DE X W (.Tuple es x1 pos) (fun ρ => do let ds ← t ρ; Wm.need (Fits ds.length); pure (.tup ds)) := by
  obtain ⟨ta, p, r⟩ := h
  refine ⟨_, fun i => pe_tup (p i), fun F H n σ ρ K Kx Q hs ht hq hx => ?_⟩
  refine r F H n σ ρ _ Kx _ hs ht (fun vs ds F1 H1 n1 g1 hvs ht1 => ?_) hx
  refine ⟨by rw [hvs.len]; exact ht1.1, fun a ha => ?_⟩
  have g2 : Grow F1 H1 n1 (plusF F1 a) (upd H1 a (.tup vs)) n1 := .laid g1.pb ha .tup
  exact hq _ (.tup ds) _ _ n1 (g1.trans g2) (.tup plusF_same upd_same (hvs.mono g2)) ht1.2
theorem DE.lst {es : List Expr} {t : TD (List D)} {pos} (h : DA X W es t) : DE X W (.List es pos) (fun ρ => do let ds ← t ρ; Wm.need (Fits ds.length); pure (.lst ds)) := by
  obtain ⟨ta, p, r⟩ := h
  refine ⟨_, fun i => pe_lst (p i), fun F H n σ ρ K Kx Q hs ht hq hx => ?_⟩
  refine r F H n σ ρ _ Kx _ hs ht (fun vs ds F1 H1 n1 g1 hvs ht1 => ?_) hx
  refine ⟨by rw [hvs.len]; exact ht1.1, fun a ha => ?_⟩
  have g2 : Grow F1 H1 n1 (plusF F1 a) (upd H1 a (.lst vs)) n1 := .laid g1.pb ha .lst
  exact hq _ (.lst ds) _ _ n1 (g1.trans g2) (.lst plusF_same upd_same (hvs.mono g2)) ht1.2

/-! ### operators by values -/
/-- the reading r of two values is φ of their data -/
def Sem2 (r : R2) (φ : D → D → Wm D) : Prop := ∀ (F : Addr → Prop) (H : Hp) (n : Nat) (x y : V) (a b : D) (K : D → Nat → Prop) (Q : VK), PenB F H n → Has F H x a → Has F H y b → φ a b K XFalse n →
  (∀ v d F' H' n', Grow F H n F' H' n' → Has F' H' v d → K d n' → Q v H') → r x y H Q
def Sem1 (r : V → Hp → VK → Prop) (φ : D → Wm D) : Prop := ∀ (F : Addr → Prop) (H : Hp) (n : Nat) (x : V) (a : D) (K : D → Nat → Prop) (Q : VK), PenB F H n → Has F H x a → φ a K XFalse n →
  (∀ v d F' H' n', Grow F H n F' H' n' → Has F' H' v d → K d n' → Q v H') → r x H Q
def SemL (r : List V → Hp → VK → Prop) (φ : List D → Wm D) : Prop := ∀ (F : Addr → Prop) (H : Hp) (n : Nat) (xs : List V) (as : List D) (K : D → Nat → Prop) (Q : VK), PenB F H n → HasL F H xs as → φ as K XFalse n →
  (∀ v d F' H' n', Grow F H n F' H' n' → Has F' H' v d → K d n' → Q v H') → r xs H Q
/-- what raises nothing -/
def calm {α : Type} (m : Wm α) : Wm α := fun K _ n => m K XFalse n
theorem DE.op2 {a b e : Expr} {r : R2} {φ : D → D → Wm D} {t u : TD D} (hp : ∀ i ta tb, PE (X i) a ta → PE (X i) b tb → PE (X i) e (tOp r ta tb)) (hr : Sem2 r φ) (h1 : DE X W a t) (h2 : DE X W b u) :
    DE X W e (fun ρ => do let x ← t ρ; let y ← u ρ; calm (φ x y)) := by
  obtain ⟨te, p1, r1⟩ := h1
  obtain ⟨tu, p2, r2⟩ := h2
  refine ⟨_, fun i => hp i _ _ (p1 i) (p2 i), fun F H n σ ρ K Kx Q hs ht hq hx => ?_⟩
  refine r1 F H n σ ρ _ Kx _ hs ht (fun v d F1 H1 n1 g1 hv ht1 => ?_) hx
  refine r2 F1 H1 n1 σ ρ _ Kx _ (hs.mono g1) ht1 (fun w d2 F2 H2 n2 g2 hw ht2 => ?_) fun cls od xd F' H' n' g => hx cls od xd F' H' n' (g1.trans g)
  exact hr F2 H2 n2 v w d d2 K Q g2.pb (hv.mono g2) hw ht2 fun v3 d3 F3 H3 n3 g3 => hq v3 d3 F3 H3 n3 (g1.trans (g2.trans g3))
theorem DE.op1 {a e : Expr} {r : V → Hp → VK → Prop} {φ : D → Wm D} {t : TD D} (hp : ∀ i ta, PE (X i) a ta → PE (X i) e (tUn r ta)) (hr : Sem1 r φ) (h1 : DE X W a t) :
    DE X W e (fun ρ => do let x ← t ρ; calm (φ x)) := by
  obtain ⟨te, p1, r1⟩ := h1
  refine ⟨_, fun i => hp i _ (p1 i), fun F H n σ ρ K Kx Q hs ht hq hx => ?_⟩
  refine r1 F H n σ ρ _ Kx _ hs ht (fun v d F1 H1 n1 g1 hv ht1 => ?_) hx
  exact hr F1 H1 n1 v d K Q g1.pb hv ht1 fun v3 d3 F3 H3 n3 g3 => hq v3 d3 F3 H3 n3 (g1.trans g3)
theorem DE.opL {es : List Expr} {e : Expr} {r : List V → Hp → VK → Prop} {φ : List D → Wm D} {t : TD (List D)} (hp : ∀ i ta, PA (X i) es ta → PE (X i) e (tCB r ta)) (hr : SemL r φ) (h1 : DA X W es t) :
    DE X W e (fun ρ => do let xs ← t ρ; calm (φ xs)) := by
  obtain ⟨te, p1, r1⟩ := h1
  refine ⟨_, fun i => hp i _ (p1 i), fun F H n σ ρ K Kx Q hs ht hq hx => ?_⟩
  refine r1 F H n σ ρ _ Kx _ hs ht (fun vs ds F1 H1 n1 g1 hv ht1 => ?_) hx
  exact hr F1 H1 n1 vs ds K Q g1.pb hv ht1 fun v3 d3 F3 H3 n3 g3 => hq v3 d3 F3 H3 n3 (g1.trans g3)

/-! ### tests -/
theorem DT.val {e : Expr} {t : TD D} (h : DE X W e t) (he : ∀ i whole, isTrue e (X i).env whole = (do let v ← whole; standAt e.pos; holding [v] (truthy v)) := by intro _ _; rfl) :
    DT X W e (fun ρ => do match ← t ρ with | .bl b => pure b | _ => Wm.fail) := by
  obtain ⟨te, p1, r1⟩ := h
  refine ⟨_, fun i => pt_val (p1 i) (he i), fun F H n σ ρ K Kx Q hs ht hq hx => ?_⟩
  refine r1 F H n σ ρ _ Kx _ hs ht (fun v d F1 H1 n1 g1 hv ht1 => ?_) hx
  cases hv with
  | bl b => exact ⟨b, rfl, hq b F1 H1 n1 g1 ht1⟩
  | _ => exact ht1.elim
theorem DT.cmp {a b : Expr} {op : CmpOp} {pos} {r : R2} {φ : D → D → Wm D} {t u : TD D} (ho : ∀ i, OpR (X i) (compareOp op) r) (hr : Sem2 r φ) (h1 : DE X W a t) (h2 : DE X W b u) (hm : behindInMarks op b = false := by first | exact nomark _ | rfl) :
    DT X W (.Compare a [op] [b] pos) (fun ρ => do let x ← t ρ; let y ← u ρ; match ← calm (φ x y) with | .bl b => pure b | _ => Wm.fail) := by
  obtain ⟨te, p1, r1⟩ := h1
  obtain ⟨tu, p2, r2⟩ := h2
  refine ⟨_, fun i => pt_cmpR (ho i) (p1 i) (p2 i) hm, fun F H n σ ρ K Kx Q hs ht hq hx => ?_⟩
  refine r1 F H n σ ρ _ Kx _ hs ht (fun v d F1 H1 n1 g1 hv ht1 => ?_) hx
  refine r2 F1 H1 n1 σ ρ _ Kx _ (hs.mono g1) ht1 (fun w d2 F2 H2 n2 g2 hw ht2 => ?_) fun cls od xd F' H' n' g => hx cls od xd F' H' n' (g1.trans g)
  refine hr F2 H2 n2 v w d d2 _ _ g2.pb (hv.mono g2) hw ht2 fun v3 d3 F3 H3 n3 g3 hv3 ht3 => ?_
  cases hv3 with
  | bl b => exact ⟨b, rfl, hq b F3 H3 n3 (g1.trans (g2.trans g3)) ht3⟩
  | _ => exact ht3.elim
theorem DT.not {a : Expr} {t : TD Bool} {pos} (h : DT X W a t) : DT X W (.UnaryOp .Not a pos) (fun ρ => do let b ← t ρ; pure (!b)) := by
  obtain ⟨te, p1, r1⟩ := h
  exact ⟨_, fun i => pt_not (p1 i), fun F H n σ ρ K Kx Q hs ht hq hx => r1 F H n σ ρ _ Kx _ hs ht (fun b F1 H1 n1 g1 ht1 => hq (!b) F1 H1 n1 g1 ht1) hx⟩
theorem DW.pt {e : Expr} {t : TD Bool} (h : DW X W e t) : DT X W e t := let ⟨te, p, r⟩ := h; ⟨te, fun i => (p i).pt, r⟩
theorem DW.and1 {a : Expr} {t : TD Bool} {pos} (h : DT X W a t) : DW X W (.BoolOp .And [a] pos) t := let ⟨te, p, r⟩ := h; ⟨te, fun i => pw_and1 (p i), r⟩
theorem DW.or1 {a : Expr} {t : TD Bool} {pos} (h : DT X W a t) : DW X W (.BoolOp .Or [a] pos) t := let ⟨te, p, r⟩ := h; ⟨te, fun i => pw_or1 (p i), r⟩
theorem DW.and {a b : Expr} {rest : List Expr} {t u : TD Bool} {pos} (h1 : DT X W a t) (h2 : DW X W (.BoolOp .And (b :: rest) pos) u) : DW X W (.BoolOp .And (a :: b :: rest) pos) (fun ρ => do if ← t ρ then u ρ else pure false) := by
  obtain ⟨te, p1, r1⟩ := h1
  obtain ⟨tu, p2, r2⟩ := h2
  refine ⟨_, fun i => pw_and (p1 i) (p2 i), fun F H n σ ρ K Kx Q hs ht hq hx => ?_⟩
  refine r1 F H n σ ρ _ Kx _ hs ht (fun b F1 H1 n1 g1 ht1 => ?_) hx
  cases b with
  | true => exact iteT (r2 F1 H1 n1 σ ρ K Kx Q (hs.mono g1) ht1 (fun b F2 H2 n2 g2 => hq b F2 H2 n2 (g1.trans g2)) fun cls od xd F' H' n' g => hx cls od xd F' H' n' (g1.trans g))
  | false => exact iteF (hq false F1 H1 n1 g1 ht1)
theorem DW.or {a b : Expr} {rest : List Expr} {t u : TD Bool} {pos} (h1 : DT X W a t) (h2 : DW X W (.BoolOp .Or (b :: rest) pos) u) : DW X W (.BoolOp .Or (a :: b :: rest) pos) (fun ρ => do if ← t ρ then pure true else u ρ) := by
  obtain ⟨te, p1, r1⟩ := h1
  obtain ⟨tu, p2, r2⟩ := h2
  refine ⟨_, fun i => pw_or (p1 i) (p2 i), fun F H n σ ρ K Kx Q hs ht hq hx => ?_⟩
  refine r1 F H n σ ρ _ Kx _ hs ht (fun b F1 H1 n1 g1 ht1 => ?_) hx
  cases b with
  | true => exact iteT (hq true F1 H1 n1 g1 ht1)
  | false => exact iteF (r2 F1 H1 n1 σ ρ K Kx Q (hs.mono g1) ht1 (fun b F2 H2 n2 g2 => hq b F2 H2 n2 (g1.trans g2)) fun cls od xd F' H' n' g => hx cls od xd F' H' n' (g1.trans g))

/-! ### the same as values -/
theorem DE.one {op} {a : Expr} {t : TD D} {pos} (h : DE X W a t) : DE X W (.BoolOp op [a] pos) t := let ⟨te, p, r⟩ := h; ⟨te, fun i => pe_one (p i), r⟩
theorem DE.and {a b : Expr} {rest : List Expr} {t u : TD D} {pos} (h1 : DE X W a t) (h2 : DE X W (.BoolOp .And (b :: rest) pos) u) : DE X W (.BoolOp .And (a :: b :: rest) pos) (fun ρ => do match ← t ρ with | .bl true => u ρ | .bl false => pure (.bl false) | _ => Wm.fail) := by
  obtain ⟨te, p1, r1⟩ := h1
  obtain ⟨tu, p2, r2⟩ := h2
  refine ⟨_, fun i => pe_and (p1 i) (p2 i), fun F H n σ ρ K Kx Q hs ht hq hx => ?_⟩
  refine r1 F H n σ ρ _ Kx _ hs ht (fun v d F1 H1 n1 g1 hv ht1 => ?_) hx
  cases hv with
  | bl b =>
    cases b with
    | true => exact ⟨true, rfl, iteT (r2 F1 H1 n1 σ ρ K Kx Q (hs.mono g1) ht1 (fun v d F2 H2 n2 g2 => hq v d F2 H2 n2 (g1.trans g2)) fun cls od xd F' H' n' g => hx cls od xd F' H' n' (g1.trans g))⟩
    | false => exact ⟨false, rfl, iteF (hq _ _ F1 H1 n1 g1 (.bl false) ht1)⟩
  | _ => exact ht1.elim
theorem DE.or {a b : Expr} {rest : List Expr} {t u : TD D} {pos} (h1 : DE X W a t) (h2 : DE X W (.BoolOp .Or (b :: rest) pos) u) : DE X W (.BoolOp .Or (a :: b :: rest) pos) (fun ρ => do match ← t ρ with | .bl true => pure (.bl true) | .bl false => u ρ | _ => Wm.fail) := by
  obtain ⟨te, p1, r1⟩ := h1
  obtain ⟨tu, p2, r2⟩ := h2
  refine ⟨_, fun i => pe_or (p1 i) (p2 i), fun F H n σ ρ K Kx Q hs ht hq hx => ?_⟩
  refine r1 F H n σ ρ _ Kx _ hs ht (fun v d F1 H1 n1 g1 hv ht1 => ?_) hx
  cases hv with
  | bl b =>
    cases b with
    | true => exact ⟨true, rfl, iteT (hq _ _ F1 H1 n1 g1 (.bl true) ht1)⟩
    | false => exact ⟨false, rfl, iteF (r2 F1 H1 n1 σ ρ K Kx Q (hs.mono g1) ht1 (fun v d F2 H2 n2 g2 => hq v d F2 H2 n2 (g1.trans g2)) fun cls od xd F' H' n' g => hx cls od xd F' H' n' (g1.trans g))⟩
  | _ => exact ht1.elim
theorem DE.not {a : Expr} {t : TD D} {pos} (h : DE X W a t) : DE X W (.UnaryOp .Not a pos) (fun ρ => do match ← t ρ with | .bl b => pure (.bl (!b)) | _ => Wm.fail) := by
  obtain ⟨te, p1, r1⟩ := h
  refine ⟨_, fun i => pe_not (p1 i), fun F H n σ ρ K Kx Q hs ht hq hx => ?_⟩
  refine r1 F H n σ ρ _ Kx _ hs ht (fun v d F1 H1 n1 g1 hv ht1 => ?_) hx
  cases hv with
  | bl b => exact ⟨b, rfl, hq _ _ F1 H1 n1 g1 (.bl _) ht1⟩
  | _ => exact ht1.elim
theorem DE.cmp {a b : Expr} {op : CmpOp} {pos} {r : R2} {φ : D → D → Wm D} {t u : TD D} (ho : ∀ i, OpR (X i) (compareOp op) r) (hr : Sem2 r φ) (h1 : DE X W a t) (h2 : DE X W b u) (hm : behindInMarks op b = false := by first | exact nomark _ | rfl) :
    DE X W (.Compare a [op] [b] pos) (fun ρ => do let x ← t ρ; let y ← u ρ; calm (φ x y)) := .op2 (fun i _ _ pa pb => pe_cmpR (ho i) pa pb hm) hr h1 h2
theorem DE.ifExp {c a b : Expr} {tc : TD Bool} {t u : TD D} {pos} (hc : DT X W c tc) (h1 : DE X W a t) (h2 : DE X W b u) : DE X W (.IfExp c a b pos) (fun ρ => do if ← tc ρ then t ρ else u ρ) := by
  obtain ⟨tt, p0, r0⟩ := hc
  obtain ⟨te, p1, r1⟩ := h1
  obtain ⟨tu, p2, r2⟩ := h2
  refine ⟨_, fun i => pe_ifExp (p0 i) (p1 i) (p2 i), fun F H n σ ρ K Kx Q hs ht hq hx => ?_⟩
  refine r0 F H n σ ρ _ Kx _ hs ht (fun b F1 H1 n1 g1 ht1 => ?_) hx
  cases b with
  | true => exact iteT (r1 F1 H1 n1 σ ρ K Kx Q (hs.mono g1) ht1 (fun v d F2 H2 n2 g2 => hq v d F2 H2 n2 (g1.trans g2)) fun cls od xd F' H' n' g => hx cls od xd F' H' n' (g1.trans g))
  | false => exact iteF (r2 F1 H1 n1 σ ρ K Kx Q (hs.mono g1) ht1 (fun v d F2 H2 n2 g2 => hq v d F2 H2 n2 (g1.trans g2)) fun cls od xd F' H' n' g => hx cls od xd F' H' n' (g1.trans g))

/-! ### calls of one's own defs -/
/-- the promise of a def that takes m values to what w tells of their data -/
def spD (m : Nat) (w : List D → Wm D) : Sp := fun vs H Q E => vs.length = m ∧ ∃ F n ds K X, PenB F H n ∧ HasL F H vs ds ∧ w ds K X n ∧
  (∀ v d F' H' n', Grow F H n F' H' n' → Has F' H' v d → K d n' → Q v H') ∧ (∀ cls od xd F' H' n', Grow F H n F' H' n' → HasX F' H' cls od xd → X xd n' → E cls od H')
theorem DE.call {x : Str} {p pos : Pos} {e : Expr} {es : List Expr} {t : TD (List D)} {k f fd} {ps : List Str} {w : List D → Wm D} {m : Nat} (F : ∀ i, FnG (X i).prog (X i).w (X i).K (X i).mg (X i).base k f fd ps (spD m w)) (hgd : ∀ i, (X i).A.guards = some []) (hr : ∀ i, Room k (X i).A)
    (tk : ∀ i, Takes (X i) W) (hg : ∀ i, Gl (X i) x) (hm : ∀ i, (X i).mg x = some (.ref f)) (hk : ∀ i, PySem.W.keepIn (X i).K (.ref f) = true) (hb : ∀ i, Binds (X i).K fd ps []) (h : DA X W (e :: es) t) (hdb : (x == ("__debug__" : Str)) = false := by decide)
    (he : plainE e = true := by rfl) (hpl : ∀ i, (backTo pos (starEach es (X i).env)).any (·.1) = false := by intro _; rfl) :
    DE X W (.Call (.Name x p) (e :: es) [] pos) (fun ρ => do let ds ← t ρ; Wm.need (ds.length = m); w ds) := by
  obtain ⟨ta, p1, r1⟩ := h
  refine ⟨_, fun i => pe_callG (F i) (hgd i) (hr i) (tk i) (hg i) (hm i) (hk i) (hb i) (p1 i) hdb (star_plain he) (hpl i), fun F H n σ ρ K Kx Q hs ht hq hx => ?_⟩
  refine r1 F H n σ ρ _ Kx _ hs ht (fun vs ds F1 H1 n1 g1 hv ht1 => ?_) hx
  exact ⟨by rw [hv.len]; exact ht1.1, F1, n1, ds, K, Kx, g1.pb, hv, ht1.2, fun v d F2 H2 n2 g2 => hq v d F2 H2 n2 (g1.trans g2), fun cls od xd F' H' n' g => hx cls od xd F' H' n' (g1.trans g)⟩
theorem DE.call0 {x : Str} {p pos : Pos} {k f fd} {ps : List Str} {w : List D → Wm D} (F : ∀ i, FnG (X i).prog (X i).w (X i).K (X i).mg (X i).base k f fd ps (spD 0 w)) (hgd : ∀ i, (X i).A.guards = some []) (hr : ∀ i, Room k (X i).A)
    (tk : ∀ i, Takes (X i) W) (hg : ∀ i, Gl (X i) x) (hm : ∀ i, (X i).mg x = some (.ref f)) (hk : ∀ i, PySem.W.keepIn (X i).K (.ref f) = true) (hb : ∀ i, Binds (X i).K fd ps []) (hdb : (x == ("__debug__" : Str)) = false := by decide) :
    DE X W (.Call (.Name x p) [] [] pos) (fun _ => w []) := by
  refine ⟨_, fun i => pe_callG0 (F i) (hgd i) (hr i) (tk i) (hg i) (hm i) (hk i) (hb i) hdb, fun F H n σ ρ K Kx Q hs ht hq hx => ?_⟩
  exact ⟨rfl, F, n, [], K, Kx, hs.pb, .nil, ht, hq, hx⟩
end
end DL


set_option maxRecDepth 100000
set_option maxHeartbeats 2000000
/-! DL2: statements, loops, functions by data. Own work. -/
namespace DL
open PySem PySem.Spec PyProof.Rows L2

/-- the entry -/
structure Base where
  F : Addr → Prop
  H : Hp
  n : Nat
structure Stt (B : Base) (F : Addr → Prop) (H : Hp) (n : Nat) (σ : L2.St) (ρ : Env') : Prop where
  grow : Grow B.F B.H B.n F H n
  hs : HasS F H n σ ρ
  own : ∀ (i : Nat) (ds : List D) (a : Addr), ρ[i]? = some (some (.ml ds)) → σ[i]? = some (some (.ref a)) → B.H a = none
  sep : ∀ (i j : Nat) (ds es : List D) (a : Addr), i ≠ j → ρ[i]? = some (some (.ml ds)) → ρ[j]? = some (some (.ml es)) → σ[i]? = some (some (.ref a)) → σ[j]? = some (some (.ref a)) → False
theorem Stt.mono {B : Base} {F F' : Addr → Prop} {H H' : Hp} {n n' : Nat} {σ : L2.St} {ρ : Env'} (s : Stt B F H n σ ρ) (g : Grow F H n F' H' n') : Stt B F' H' n' σ ρ :=
  ⟨s.grow.trans g, s.hs.mono g, s.own, s.sep⟩

structure DEnds where
  nx : Env' → Nat → Prop
  rt : D → Nat → Prop
  bk : Env' → Nat → Prop := fun _ _ => False
  ct : Env' → Nat → Prop := fun _ _ => False
  ex : XD → Env' → Nat → Prop := fun _ _ _ => False
abbrev TDS := DEnds → Env' → Nat → Prop
structure EndsOk (W : WX) (B : Base) (F₁ : Addr → Prop) (H₁ : Hp) (n₁ : Nat) (E : DEnds) (D : Ends) : Prop where
  nx : ∀ σ ρ F H n, Stt B F H n σ ρ → Later F₁ H₁ n₁ F H n → E.nx ρ n → D.nx σ H
  bk : ∀ σ ρ F H n, Stt B F H n σ ρ → Later F₁ H₁ n₁ F H n → E.bk ρ n → D.bk σ H
  ct : ∀ σ ρ F H n, Stt B F H n σ ρ → Later F₁ H₁ n₁ F H n → E.ct ρ n → D.ct σ H
  rt : ∀ v d F H n, Grow B.F B.H B.n F H n → Has F H v d → E.rt d n → D.rt v H
  ex : ∀ cls od xd σ ρ F H n, Stt B F H n σ ρ → Later F₁ H₁ n₁ F H n → HasX F H cls od xd → E.ex xd ρ n → W cls od σ H
theorem EndsOk.later {W : WX} {B : Base} {F₁ F₂ : Addr → Prop} {H₁ H₂ : Hp} {n₁ n₂ : Nat} {E : DEnds} {D : Ends} (e : EndsOk W B F₁ H₁ n₁ E D) (l : Later F₁ H₁ n₁ F₂ H₂ n₂) : EndsOk W B F₂ H₂ n₂ E D :=
  ⟨fun σ ρ F H n s l2 => e.nx σ ρ F H n s (l.trans l2), fun σ ρ F H n s l2 => e.bk σ ρ F H n s (l.trans l2), fun σ ρ F H n s l2 => e.ct σ ρ F H n s (l.trans l2), e.rt, fun c o x σ ρ F H n s l2 => e.ex c o x σ ρ F H n s (l.trans l2)⟩
def RunS (W : WX) (ts : TS) (t : TDS) : Prop := ∀ (B : Base) (F : Addr → Prop) (H : Hp) (n : Nat) (σ : L2.St) (ρ : Env') (E : DEnds) (D : Ends), Stt B F H n σ ρ → t E ρ n → EndsOk W B F H n E D → ts D σ H
structure DS {ι : Type} (X : ι → Cx) (W : WX) (st : Stmt) (t : TDS) : Prop where
  ex : ∃ ts, (∀ i, PS (X i) st ts) ∧ RunS W ts t
structure DSs {ι : Type} (X : ι → Cx) (W : WX) (st : List Stmt) (t : TDS) : Prop where
  ex : ∃ ts, (∀ i, PSs (X i) st ts) ∧ RunS W ts t
/-- an expression within a statement -/
def onE (m : TD D) (k : D → Env' → Nat → Prop) : TDS := fun E ρ n => m ρ (fun d n' => k d ρ n') (fun x n' => E.ex x ρ n') n
def onT (m : TD Bool) (k : Bool → Env' → Nat → Prop) : TDS := fun E ρ n => m ρ (fun d n' => k d ρ n') (fun x n' => E.ex x ρ n') n
theorem RunE.on {W : WX} {te : TE} {t : TD D} (r : RunE W te t) {B : Base} {F : Addr → Prop} {H : Hp} {n : Nat} {σ : L2.St} {ρ : Env'} {k : D → Env' → Nat → Prop} {E : DEnds} {Z : Ends} {Q : VK} (s : Stt B F H n σ ρ) (h : onE t k E ρ n) (eo : EndsOk W B F H n E Z)
    (hq : ∀ v d F' H' n', Stt B F' H' n' σ ρ → Grow F H n F' H' n' → Has F' H' v d → k d ρ n' → EndsOk W B F' H' n' E Z → Q v H') : te σ H Q :=
  r F H n σ ρ _ _ Q s.hs h (fun v d F' H' n' g hv hk => hq v d F' H' n' (s.mono g) g hv hk (eo.later g.later)) fun cls od xd F' H' n' g hx he => eo.ex cls od xd σ ρ F' H' n' (s.mono g) g.later hx he
theorem RunT.on {W : WX} {te : TT} {t : TD Bool} (r : RunT W te t) {B : Base} {F : Addr → Prop} {H : Hp} {n : Nat} {σ : L2.St} {ρ : Env'} {E : DEnds} {D : Ends} {k : Bool → Env' → Nat → Prop} {Q : Bool → Hp → Prop} (s : Stt B F H n σ ρ) (h : onT t k E ρ n) (eo : EndsOk W B F H n E D)
    (hq : ∀ b F' H' n', Stt B F' H' n' σ ρ → Grow F H n F' H' n' → k b ρ n' → EndsOk W B F' H' n' E D → Q b H') : te σ H Q :=
  r F H n σ ρ _ _ Q s.hs h (fun b F' H' n' g hk => hq b F' H' n' (s.mono g) g hk (eo.later g.later)) fun cls od xd F' H' n' g hx he => eo.ex cls od xd σ ρ F' H' n' (s.mono g) g.later hx he

section
variable {ι : Type} {X : ι → Cx} {W : WX}
/-! ### blocks -/
def dNext : TDS := fun E ρ n => E.nx ρ n
def dSeq (t u : TDS) : TDS := fun E ρ n => t { E with nx := fun ρ' n' => u E ρ' n' } ρ n
theorem DSs.nil : DSs X W [] dNext := ⟨_, fun _ => pss_nil, fun B F H n σ ρ E D s h eo => eo.nx σ ρ F H n s .refl h⟩
theorem DSs.cons {st : Stmt} {rest : List Stmt} {t u : TDS} (h1 : DS X W st t) (h2 : DSs X W rest u) : DSs X W (st :: rest) (dSeq t u) := by
  obtain ⟨ts, p1, r1⟩ := h1
  obtain ⟨us, p2, r2⟩ := h2
  refine ⟨_, fun i => pss_cons (p1 i) (p2 i), fun B F H n σ ρ E D s h eo => ?_⟩
  refine r1 B F H n σ ρ _ _ s h ⟨fun σ' ρ' F' H' n' s' l hn => ?_, eo.bk, eo.ct, eo.rt, eo.ex⟩
  exact r2 B F' H' n' σ' ρ' E D s' hn (eo.later l)
theorem DSs.one {st : Stmt} {t : TDS} (h1 : DS X W st t) : DSs X W [st] t := by
  obtain ⟨ts, p1, r1⟩ := h1
  exact ⟨_, fun i => pss_one (p1 i), r1⟩
theorem DS.pass {pos} : DS X W (.Pass pos) dNext := ⟨_, fun _ => ps_pass, fun B F H n σ ρ E D s h eo => eo.nx σ ρ F H n s .refl h⟩
theorem DS.brk {pos} : DS X W (.Break pos) (fun E ρ n => E.bk ρ n) := ⟨_, fun _ => ps_break, fun B F H n σ ρ E D s h eo => eo.bk σ ρ F H n s .refl h⟩
theorem DS.cont {pos} : DS X W (.Continue pos) (fun E ρ n => E.ct ρ n) := ⟨_, fun _ => ps_continue, fun B F H n σ ρ E D s h eo => eo.ct σ ρ F H n s .refl h⟩
theorem DS.doc {x j pos pos'} : DS X W (.Expr (.Constant (.str x) j pos) pos') dNext := ⟨_, fun _ => ps_doc, fun B F H n σ ρ E D s h eo => eo.nx σ ρ F H n s .refl h⟩
theorem DS.expr {e : Expr} {t : TD D} {pos : Pos} (h : DE X W e t) (hs : ∀ i, swapsWith e none pos.line (X i).env = pure false := by intro _; rfl) : DS X W (.Expr e pos) (fun E => onE t (fun _ ρ n => E.nx ρ n) E) := by
  obtain ⟨te, p, r⟩ := h
  refine ⟨_, fun i => ps_expr (p i) (hs i), fun B F H n σ ρ E D s h eo => ?_⟩
  exact r.on s h eo fun v d F' H' n' s' g hv hk eo' => eo'.nx σ ρ F' H' n' s' .refl hk
theorem DS.ret {e : Expr} {t : TD D} {pos : Pos} (h : DE X W e t) : DS X W (.Return (some e) pos) (fun E => onE t (fun d _ n => E.rt d n) E) := by
  obtain ⟨te, p, r⟩ := h
  refine ⟨_, fun i => ps_ret (p i), fun B F H n σ ρ E D s h eo => ?_⟩
  exact r.on s h eo fun v d F' H' n' s' g hv hk eo' => eo'.rt v d F' H' n' s'.grow hv hk
theorem DS.retN {pos : Pos} : DS X W (.Return none pos) (fun E _ n => E.rt .non n) := ⟨_, fun _ => ps_retN, fun B F H n σ ρ E D s h eo => eo.rt .non .non F H n s.grow .non h⟩
theorem DS.ifS {c : Expr} {a b : List Stmt} {tc : TD Bool} {t u : TDS} {pos : Pos} (hc : DT X W c tc) (ha : DSs X W a t) (hb : DSs X W b u) : DS X W (.If c a b pos) (fun E => onT tc (fun k ρ n => if k = true then t E ρ n else u E ρ n) E) := by
  obtain ⟨te, p, r⟩ := hc
  obtain ⟨ts, p1, r1⟩ := ha
  obtain ⟨us, p2, r2⟩ := hb
  refine ⟨_, fun i => ps_if (p i) (p1 i) (p2 i), fun B F H n σ ρ E D s h eo => ?_⟩
  refine r.on s h eo fun b F' H' n' s' g hk eo' => ?_
  cases b with
  | true => exact iteT (r1 B F' H' n' σ ρ E D s' (by simpa using hk) eo')
  | false => exact iteF (r2 B F' H' n' σ ρ E D s' (by simpa using hk) eo')
end

/-! ### slots -/
theorem HasS.set {F : Addr → Prop} {H : Hp} {n : Nat} {σ : L2.St} {ρ : Env'} {i : Nat} {v : V} {x : SV} (h : HasS F H n σ ρ) (hv : HasV F H v x) : HasS F H n (σ.set i (some v)) (ρ.set i (some x)) := by
  refine ⟨h.pb, by simp [h.len], fun j y e => ?_⟩
  by_cases hj : i = j
  · subst hj
    by_cases hl : i < ρ.length
    · rw [List.getElem?_set_self hl] at e
      have e := Option.some.inj (Option.some.inj e)
      subst e
      exact ⟨v, List.getElem?_set_self (by rw [h.len]; exact hl), hv⟩
    · rw [List.getElem?_eq_none (by simp; omega)] at e
      cases e
  · rw [List.getElem?_set_ne hj] at e ⊢
    exact h.at_ j y e
theorem ml_set {ρ : Env'} {i j : Nat} {x : D} {ds : List D} (e : (ρ.set i (some (.d x)))[j]? = some (some (.ml ds))) : i ≠ j ∧ ρ[j]? = some (some (.ml ds)) := by
  by_cases hj : i = j
  · subst hj
    by_cases hl : i < ρ.length
    · rw [List.getElem?_set_self hl] at e
      cases e
    · rw [List.getElem?_eq_none (by simp; omega)] at e
      cases e
  · rw [List.getElem?_set_ne hj] at e
    exact ⟨hj, e⟩
theorem Stt.set {B : Base} {F : Addr → Prop} {H : Hp} {n : Nat} {σ : L2.St} {ρ : Env'} {i : Nat} {v : V} {d : D} (s : Stt B F H n σ ρ) (hv : Has F H v d) : Stt B F H n (σ.set i (some v)) (ρ.set i (some (.d d))) := by
  refine ⟨s.grow, s.hs.set hv, fun j ds a e1 e2 => ?_, fun j k ds es a hne e1 e2 e3 e4 => ?_⟩
  · obtain ⟨hj, e⟩ := ml_set e1
    rw [List.getElem?_set_ne hj] at e2
    exact s.own j ds a e e2
  · obtain ⟨hj, f1⟩ := ml_set e1
    obtain ⟨hk, f2⟩ := ml_set e2
    rw [List.getElem?_set_ne hj] at e3
    rw [List.getElem?_set_ne hk] at e4
    exact s.sep j k ds es a hne f1 f2 e3 e4

/-! ### targets -/
/-- only the slots ts are others, and they are no lists of one's own -/
structure Only (ts : List Nat) (σ σ' : L2.St) (ρ ρ' : Env') : Prop where
  ls : σ'.length = σ.length
  lr : ρ'.length = ρ.length
  out : ∀ i, i ∉ ts → σ'[i]? = σ[i]? ∧ ρ'[i]? = ρ[i]?
  no : ∀ i ds, i ∈ ts → ρ'[i]? ≠ some (some (.ml ds))
theorem Only.refl {σ : L2.St} {ρ : Env'} : Only [] σ σ ρ ρ := ⟨rfl, rfl, fun _ _ => ⟨rfl, rfl⟩, fun _ _ h => by simp at h⟩
theorem Only.trans {ts us : List Nat} {σ σ1 σ2 : L2.St} {ρ ρ1 ρ2 : Env'} (a : Only ts σ σ1 ρ ρ1) (b : Only us σ1 σ2 ρ1 ρ2) : Only (ts ++ us) σ σ2 ρ ρ2 where
  ls := b.ls.trans a.ls
  lr := b.lr.trans a.lr
  out := fun i h => by
    have h1 : i ∉ ts := fun z => h (List.mem_append_left _ z)
    have h2 : i ∉ us := fun z => h (List.mem_append_right _ z)
    exact ⟨(b.out i h2).1.trans (a.out i h1).1, (b.out i h2).2.trans (a.out i h1).2⟩
  no := fun i ds h => by
    by_cases h2 : i ∈ us
    · exact b.no i ds h2
    · rw [(b.out i h2).2]
      exact a.no i ds ((List.mem_append.mp h).resolve_right h2)
theorem Only.set {σ : L2.St} {ρ : Env'} {k : Nat} {v : V} {d : D} : Only [k] σ (σ.set k (some v)) ρ (ρ.set k (some (.d d))) where
  ls := by simp
  lr := by simp
  out := fun i h => by
    have hk : k ≠ i := fun e => h (by simp [e])
    exact ⟨List.getElem?_set_ne hk, List.getElem?_set_ne hk⟩
  no := fun i ds h e => by
    have hi : i = k := by simpa using h
    exact (ml_set e).1 hi.symm
theorem Stt.only {B : Base} {F : Addr → Prop} {H : Hp} {n : Nat} {σ σ' : L2.St} {ρ ρ' : Env'} {ts : List Nat} (s : Stt B F H n σ ρ) (hs : HasS F H n σ' ρ') (o : Only ts σ σ' ρ ρ') : Stt B F H n σ' ρ' := by
  have key : ∀ (i : Nat) (ds : List D), ρ'[i]? = some (some (.ml ds)) → ρ[i]? = some (some (.ml ds)) ∧ σ'[i]? = σ[i]? := fun i ds e => by
    by_cases h : i ∈ ts
    · exact absurd e (o.no i ds h)
    · exact ⟨by rw [← (o.out i h).2]; exact e, (o.out i h).1⟩
  refine ⟨s.grow, hs, fun i ds a e1 e2 => ?_, fun i j ds es a hne e1 e2 e3 e4 => ?_⟩
  · obtain ⟨h1, h2⟩ := key i ds e1
    exact s.own i ds a h1 (by rw [← h2]; exact e2)
  · obtain ⟨h1, h2⟩ := key i ds e1
    obtain ⟨h3, h4⟩ := key j es e2
    exact s.sep i j ds es a hne h1 h3 (by rw [← h2]; exact e3) (by rw [← h4]; exact e4)
abbrev TDG := D → Env' → Option Env'
def RunG (tg : TG) (g : TDG) (ts : List Nat) : Prop := ∀ (F : Addr → Prop) (H : Hp) (n : Nat) (σ : L2.St) (ρ ρ' : Env') (v : V) (d : D) (Q : L2.St → Hp → Prop), HasS F H n σ ρ → Has F H v d → g d ρ = some ρ' → (∀ σ', HasS F H n σ' ρ' → Only ts σ σ' ρ ρ' → Q σ' H) → tg v σ H Q
structure DG {ι : Type} (X : ι → Cx) (e : Expr) (g : TDG) (ts : List Nat) : Prop where
  ex : ∃ tg, (∀ i, PG (X i) e tg) ∧ RunG tg g ts
abbrev TDGs := List D → Env' → Option Env'
def RunGs (tg : TGs) (g : TDGs) (ts : List Nat) : Prop := ∀ (F : Addr → Prop) (H : Hp) (n : Nat) (σ : L2.St) (ρ ρ' : Env') (vs : List V) (ds : List D) (Q : L2.St → Hp → Prop), HasS F H n σ ρ → HasL F H vs ds → g ds ρ = some ρ' → (∀ σ', HasS F H n σ' ρ' → Only ts σ σ' ρ ρ' → Q σ' H) → tg vs σ H Q
structure DGs {ι : Type} (X : ι → Cx) (es : List Expr) (g : TDGs) (ts : List Nat) : Prop where
  ex : ∃ tg, (∀ i, PGs (X i) es tg) ∧ RunGs tg g ts
section
variable {ι : Type} {X : ι → Cx} {W : WX}
def dName (k : Nat) : TDG := fun d ρ => some (ρ.set k (some (.d d)))
theorem DG.name {k : Nat} {e : Expr} (h : ∀ i, PG (X i) e (gName k)) : DG X e (dName k) [k] := ⟨_, h, fun F H n σ ρ ρ' v d Q s hv e hq => by
  cases e
  exact hq _ (s.set hv) .set⟩
def dgNil : TDGs := fun ds ρ => match ds with | [] => some ρ | _ => none
def dgCons (g : TDG) (gs : TDGs) : TDGs := fun ds ρ => match ds with | d :: r => (g d ρ).bind (gs r) | [] => none
def dgTup (m : Nat) (gs : TDGs) : TDG := fun d ρ => match d with | .tup ds => if ds.length = m then gs ds ρ else none | _ => none
theorem DGs.nil : DGs X [] dgNil [] := ⟨_, fun _ => pgs_nil, fun F H n σ ρ ρ' vs ds Q s hv e hq => by
  cases hv with
  | nil => cases e; exact ⟨rfl, hq σ s .refl⟩
  | cons _ _ => cases e⟩
theorem DGs.cons {e : Expr} {es : List Expr} {g : TDG} {gs : TDGs} {ts us : List Nat} (h1 : DG X e g ts) (h2 : DGs X es gs us) (hs : ∀ i, (assignEach (e :: es) (X i).env).map (·.2) = assign e (X i).env :: (assignEach es (X i).env).map (·.2) := by intro _; rfl) :
    DGs X (e :: es) (dgCons g gs) (ts ++ us) := by
  obtain ⟨t1, p1, r1⟩ := h1
  obtain ⟨t2, p2, r2⟩ := h2
  refine ⟨_, fun i => pgs_cons (p1 i) (p2 i) (hs i), fun F H n σ ρ ρ' vs ds Q s hv e hq => ?_⟩
  cases hv with
  | nil => cases e
  | @cons v d vs ds hv hr =>
    obtain ⟨ρ1, e1, e2⟩ := Option.bind_eq_some_iff.mp e
    exact ⟨v, vs, rfl, r1 F H n σ ρ ρ1 v d _ s hv e1 fun σ1 s1 o1 => r2 F H n σ1 ρ1 ρ' vs ds Q s1 hr e2 fun σ2 s2 o2 => hq σ2 s2 (o1.trans o2)⟩
theorem DG.tup {es : List Expr} {k m : Nat} {pos : Pos} {gs : TDGs} {ts : List Nat} {K : PySem.W.Frag} (hK : ∀ i, (X i).K = K) (hc : ∀ i, (X i).calm = true) (h : DGs X es gs ts)
    (hn : ∀ i, (assignEach es (X i).env).length = m := by intro _; rfl) (hst : ∀ i, (assignEach es (X i).env).findIdx? (·.1) = none := by intro _; rfl) :
    DG X (.Tuple es k pos) (dgTup m gs) ts := by
  obtain ⟨tg, p, r⟩ := h
  refine ⟨gTup K m tg, fun i => by rw [← hK i]; exact pg_tup (hc i) (p i) (hn i) (hst i), fun F H n σ ρ ρ' v d Q s hv e hq => ?_⟩
  cases hv with
  | @tup a vs ds f ha hl =>
    have e : (if ds.length = m then gs ds ρ else none) = some ρ' := e
    by_cases hm : ds.length = m
    · rw [if_pos hm] at e
      exact ⟨a, vs, rfl, .of ha, by rw [hl.len]; exact hm, r F H n σ ρ ρ' vs ds Q s hl e hq⟩
    · rw [if_neg hm] at e
      cases e
  | _ => cases e
/-- target = value -/
def dAsg (t : TD D) (g : TDG) : TDS := fun E => onE t (fun d ρ n => match g d ρ with | some ρ' => E.nx ρ' n | none => False) E
theorem DS.asg {tg e : Expr} {t : TD D} {g : TDG} {us : List Nat} {pos : Pos} (h : DE X W e t) (hg : DG X tg g us) (hs : ∀ i, swapsWithSole [tg] e pos.line (X i).env = pure false := by intro _; rfl) (hw : ∀ i, swappedStores [tg] e (X i).env = pure none := by intro _; rfl)
    (h1 : ∀ i, (assignEach [tg] (X i).env).map (·.2) = [assign tg (X i).env] := by intro _; rfl) : DS X W (.Assign [tg] e pos) (dAsg t g) := by
  obtain ⟨te, p, r⟩ := h
  obtain ⟨tg, pg, rg⟩ := hg
  refine ⟨_, fun i => ps_asg (p i) (pg i) (hs i) (hw i) (h1 i), fun B F H n σ ρ E D s h eo => ?_⟩
  refine r.on s h eo fun v d F' H' n' s' g' hv hk eo' => ?_
  cases q : g d ρ with
  | none => rw [q] at hk; exact hk.elim
  | some ρ' =>
    rw [q] at hk
    exact rg F' H' n' σ ρ ρ' v d _ s'.hs hv q fun σ' s2 o => eo'.nx σ' ρ' F' H' n' (s'.only s2 o) .refl hk
theorem DS.set {k : Nat} {x : Str} {e : Expr} {t : TD D} {pos pos' : Pos} (hN : ∀ i, (X i).N.Nodup) (hi : ∀ i, (X i).N[k]? = some x) (hx : ∀ i, Loc (X i).env.scope x) (h : DE X W e t) (hs : ∀ i, swapsWith e (some (.Name x pos')) pos.line (X i).env = pure false := by intro _; rfl)
    (hf : ∀ i, (X i).fn x = true ∨ (X i).env.scope.names.lookup x = some .local := by first | exact fun _ => .inl rfl | exact fun _ => .inr rfl) : DS X W (.Assign [.Name x pos'] e pos) (dAsg t (dName k)) := by
  obtain ⟨te, p, r⟩ := h
  refine ⟨_, fun i => ps_set (i := k) (hN i) (hi i) (hx i) (p i) (hs i) (hf i), fun B F H n σ ρ E D s h eo => ?_⟩
  exact r.on s h eo fun v d F' H' n' s' g' hv hk eo' => eo'.nx _ _ F' H' n' (s'.set hv) .refl hk

/-! ### lists of one's own -/
/-- from here on it is not changed any more -/
def dFreeze (k : Nat) (t : TDS) : TDS := fun E ρ n => match ρ[k]? with
  | some (some (.ml ds)) => t E (ρ.set k (some (.d (.lst ds)))) n
  | _ => False
theorem set_id {α : Type} {l : List α} {i : Nat} {x : α} (h : l[i]? = some x) : l.set i x = l := by
  obtain ⟨hl, e⟩ := List.getElem?_eq_some_iff.mp h
  rw [← e]
  exact List.set_getElem_self hl
theorem Stt.freeze {B : Base} {F : Addr → Prop} {H : Hp} {n : Nat} {σ : L2.St} {ρ : Env'} {k : Nat} {ds : List D} (s : Stt B F H n σ ρ) (e : ρ[k]? = some (some (.ml ds))) : ∃ F', Stt B F' H n σ (ρ.set k (some (.d (.lst ds)))) ∧ Later F H n F' H n := by
  obtain ⟨v, e1, a, vs, rfl, ha, hl, nf⟩ := s.hs.at_ k _ e
  have hB : B.H a = none := s.own k ds a e e1
  have l : Later F H n (plusF F a) H n := ⟨fun b o f h => .inl h, fun b f => .inl f, Nat.le_refl _⟩
  refine ⟨plusF F a, ⟨⟨s.grow.keep, fun b f => .inl (s.grow.sub b f), fun b f => f.elim (s.grow.new b) fun q => .inr (by rw [q]; exact hB), s.hs.pb.sup (fun _ => .inl) (fun b f => f.elim (s.hs.pb.dom b) fun q => ⟨_, q ▸ ha⟩), s.grow.le⟩, ⟨s.hs.pb.sup (fun _ => .inl) (fun b f => f.elim (s.hs.pb.dom b) fun q => ⟨_, q ▸ ha⟩), by simp [s.hs.len], fun j y ej => ?_⟩, fun j es b f1 f2 => ?_, fun j j2 es fs b hne f1 f2 f3 f4 => ?_⟩, l⟩
  · by_cases hj : k = j
    · subst hj
      rw [List.getElem?_set_self (List.getElem?_eq_some_iff.mp e).1] at ej
      have ej := Option.some.inj (Option.some.inj ej)
      subst ej
      exact ⟨_, e1, .lst plusF_same ha (hl.later l)⟩
    · rw [List.getElem?_set_ne hj] at ej
      obtain ⟨w, w1, w2⟩ := s.hs.at_ j y ej
      refine ⟨w, w1, ?_⟩
      cases y with
      | d x => exact Has.later l w2
      | ml es =>
        obtain ⟨b, ws, rfl, hb, hl2, nf2⟩ := w2
        refine ⟨b, ws, rfl, hb, hl2.later l, fun f => f.elim nf2 fun q => ?_⟩
        subst q
        exact s.sep k j ds es b hj e ej e1 w1
  · obtain ⟨hj, f⟩ := ml_set f1
    exact s.own j es b f f2
  · obtain ⟨hj, g1⟩ := ml_set f1
    obtain ⟨hk, g2⟩ := ml_set f2
    exact s.sep j j2 es fs b hne g1 g2 f3 f4
theorem RunS.freeze {W : WX} {ts : TS} {t : TDS} (k : Nat) (r : RunS W ts t) : RunS W ts (dFreeze k t) := fun B F H n σ ρ E D s h eo => by
  have h : (match ρ[k]? with
    | some (some (.ml ds)) => t E (ρ.set k (some (.d (.lst ds)))) n
    | _ => False) := h
  match e : ρ[k]? with
  | some (some (.ml ds)) =>
    rw [e] at h
    obtain ⟨F', s', l⟩ := s.freeze e
    exact r B F' H n σ _ E D s' h (eo.later l)
  | some (some (.d _)) => rw [e] at h; exact h.elim
  | some none => rw [e] at h; exact h.elim
  | none => rw [e] at h; exact h.elim
theorem DS.freeze {st : Stmt} {t : TDS} (k : Nat) (h : DS X W st t) : DS X W st (dFreeze k t) := let ⟨ts, p, r⟩ := h; ⟨ts, p, r.freeze k⟩
theorem DSs.freeze {st : List Stmt} {t : TDS} (k : Nat) (h : DSs X W st t) : DSs X W st (dFreeze k t) := let ⟨ts, p, r⟩ := h; ⟨ts, p, r.freeze k⟩
/-- x = [e, ..], x to be changed -/
def dOwn (k : Nat) (t : TD (List D)) : TDS := fun E ρ n => t ρ (fun ds n' => Fits ds.length ∧ E.nx (ρ.set k (some (.ml ds))) n') (fun x n' => E.ex x ρ n') n
theorem Stt.own_new {B : Base} {F : Addr → Prop} {H : Hp} {n : Nat} {σ : L2.St} {ρ : Env'} {k : Nat} {a : Addr} {vs : List V} {ds : List D} (s : Stt B F H n σ ρ) (ha : H a = none) (hl : HasL F H vs ds) : Stt B F (upd H a (.lst vs)) n (σ.set k (some (.ref a))) (ρ.set k (some (.ml ds))) ∧ Grow F H n F (upd H a (.lst vs)) n := by
  have g0 : Grow F H n (plusF F a) (upd H a (.lst vs)) n := .laid s.hs.pb ha .lst
  have g : Grow F H n F (upd H a (.lst vs)) n := ⟨g0.keep, fun _ f => f, fun _ f => .inl f, s.hs.pb.put (s.hs.pb.out ha) .lst, Nat.le_refl _⟩
  have hB : ∀ {b : Addr}, H b = none → B.H b = none := fun {b} h => by
    cases q : B.H b with
    | none => rfl
    | some o => exact absurd h (s.grow.keep b o q).some
  have hF : ¬ F a := fun f => by
    obtain ⟨o, e⟩ := s.hs.pb.dom a f
    rw [ha] at e
    cases e
  have s1 := s.mono g
  have nost : ∀ (j : Nat) (es : List D), ρ[j]? = some (some (.ml es)) → σ[j]? ≠ some (some (.ref a)) := fun j es f z => by
    obtain ⟨v, e1, b, ws, rfl, hb, _⟩ := s.hs.at_ j _ f
    rw [z] at e1
    cases e1
    rw [ha] at hb
    cases hb
  have key : ∀ (j : Nat) (es : List D) (b : Addr), (ρ.set k (some (.ml ds)))[j]? = some (some (.ml es)) → (σ.set k (some (V.ref a)))[j]? = some (some (.ref b)) → (k = j ∧ a = b) ∨ (k ≠ j ∧ ρ[j]? = some (some (.ml es)) ∧ σ[j]? = some (some (.ref b))) := fun j es b f1 f2 => by
    by_cases hj : k = j
    · subst hj
      by_cases hl : k < σ.length
      · rw [List.getElem?_set_self hl] at f2
        cases f2
        exact .inl ⟨rfl, rfl⟩
      · rw [List.getElem?_eq_none (by simp; omega)] at f2
        cases f2
    · rw [List.getElem?_set_ne hj] at f1 f2
      exact .inr ⟨hj, f1, f2⟩
  refine ⟨⟨s1.grow, s1.hs.set ⟨a, vs, rfl, upd_same, hl.mono g, hF⟩, fun j es b f1 f2 => ?_, fun j j2 es fs b hne f1 f2 f3 f4 => ?_⟩, g⟩
  · rcases key j es b f1 f2 with ⟨_, rfl⟩ | ⟨_, h1, h2⟩
    · exact hB ha
    · exact s.own j es b h1 h2
  · rcases key j es b f1 f3 with ⟨h1, rfl⟩ | ⟨h1, h2, h3⟩
    · rcases key j2 fs a f2 f4 with ⟨g1, _⟩ | ⟨g1, g2, g3⟩
      · exact hne (h1.symm.trans g1)
      · exact nost j2 fs g2 g3
    · rcases key j2 fs b f2 f4 with ⟨g1, rfl⟩ | ⟨g1, g2, g3⟩
      · exact nost j es h2 h3
      · exact s.sep j j2 es fs b hne h2 g2 h3 g3
theorem DS.own {k : Nat} {x : Str} {es : List Expr} {t : TD (List D)} {p2 pos pos' : Pos} (hN : ∀ i, (X i).N.Nodup) (hi : ∀ i, (X i).N[k]? = some x) (hx : ∀ i, Loc (X i).env.scope x) (h : DA X W es t)
    (hs : ∀ i, swapsWith (.List es p2) (some (.Name x pos')) pos.line (X i).env = pure false := by intro _; rfl)
    (hf : ∀ i, (X i).fn x = true ∨ (X i).env.scope.names.lookup x = some .local := by first | exact fun _ => .inl rfl | exact fun _ => .inr rfl) : DS X W (.Assign [.Name x pos'] (.List es p2) pos) (dOwn k t) := by
  obtain ⟨ta, p, r⟩ := h
  refine ⟨_, fun i => ps_set (i := k) (hN i) (hi i) (hx i) (pe_lst (p i)) (hs i) (hf i), fun B F H n σ ρ E D s h eo => ?_⟩
  refine r F H n σ ρ _ _ _ s.hs h (fun vs ds F' H' n' g hv hk => ⟨by rw [hv.len]; exact hk.1, fun a ha => ?_⟩) fun cls od xd F' H' n' g hx he => eo.ex cls od xd σ ρ F' H' n' (s.mono g) g.later hx he
  obtain ⟨s2, g2⟩ := (s.mono g).own_new (k := k) ha hv
  exact eo.nx _ _ F' _ n' s2 (g.later.trans g2.later) hk.2

/-! ### x.append(e), x a list of one's own -/
theorem ne_F {F : Addr → Prop} {a b : Addr} (nf : ¬ F a) (f : F b) : b ≠ a := fun e => nf (by rw [← e]; exact f)
mutual
theorem Has.out {F : Addr → Prop} {H : Hp} {a : Addr} {o : HO} (nf : ¬ F a) : ∀ {v : V} {d : D}, Has F H v d → Has F (upd H a o) v d
  | _, _, .non => .non
  | _, _, .bl b => .bl b
  | _, _, .int i => .int i
  | _, _, .str x => .str x
  | _, _, .tup f h l => .tup f ((upd_ne (ne_F nf f)).trans h) (HasL.out nf l)
  | _, _, .lst f h l => .lst f ((upd_ne (ne_F nf f)).trans h) (HasL.out nf l)
  | _, _, .dic f h q k l => .dic f ((upd_ne (ne_F nf f)).trans h) q k (HasL.out nf l)
  | _, _, .obj f h k l => .obj f ((upd_ne (ne_F nf f)).trans h) k (HasL.out nf l)
  | _, _, .pen f h ok fc hc hl => .pen f ((upd_ne (ne_F nf f)).trans h) ok fc ((upd_ne (ne_F nf fc)).trans hc) hl
  | _, _, .clo0 f h fc hc => .clo0 f ((upd_ne (ne_F nf f)).trans h) fc ((upd_ne (ne_F nf fc)).trans hc)
  | _, _, .clo1 f h fc hc hl hs l => .clo1 f ((upd_ne (ne_F nf f)).trans h) fc ((upd_ne (ne_F nf fc)).trans hc) hl (fun p hp => let ⟨a, u, o, r, dd, e⟩ := hs p hp; ⟨a, u, o, r, dd, (upd_ne (ne_F nf a)).trans e⟩) (HasL.out nf l)
  | _, _, .fnA a => .fnA a
  | _, _, .scr h ht => .scr (h.imp_left fun ⟨o, f, e⟩ => ⟨o, f, (upd_ne (ne_F nf f)).trans e⟩) fun P hP => let ⟨f, ps, e⟩ := ht P hP; ⟨f, ps, (upd_ne (ne_F nf f)).trans e⟩
theorem HasL.out {F : Addr → Prop} {H : Hp} {a : Addr} {o : HO} (nf : ¬ F a) : ∀ {vs : List V} {ds : List D}, HasL F H vs ds → HasL F (upd H a o) vs ds
  | _, _, .nil => .nil
  | _, _, .cons h l => .cons (Has.out nf h) (HasL.out nf l)
end
theorem HasL.snoc {F : Addr → Prop} {H : Hp} : ∀ {vs : List V} {ds : List D} {v : V} {d : D}, HasL F H vs ds → Has F H v d → HasL F H (vs ++ [v]) (ds ++ [d])
  | _, _, _, _, .nil, h => .cons h .nil
  | _, _, _, _, .cons h l, g => .cons h (HasL.snoc l g)
/-- a list of one's own gets other items -/
theorem Stt.own_put {B : Base} {F : Addr → Prop} {H : Hp} {n : Nat} {σ : L2.St} {ρ : Env'} {k : Nat} {a : Addr} {vs vs' : List V} {ds ds' : List D} (s : Stt B F H n σ ρ) (e : ρ[k]? = some (some (.ml ds))) (e1 : σ[k]? = some (some (.ref a))) (ha : H a = some (.lst vs)) (nf : ¬ F a) (hl : HasL F H vs' ds') :
    Stt B F (upd H a (.lst vs')) n σ (ρ.set k (some (.ml ds'))) ∧ Later F H n F (upd H a (.lst vs')) n := by
  have hB : B.H a = none := s.own k ds a e e1
  have l : Later F H n F (upd H a (.lst vs')) n := ⟨fun b o f h => .inl ((upd_ne (ne_F nf f)).trans h), fun b f => f, Nat.le_refl _⟩
  have pb : PenB F (upd H a (.lst vs')) n := s.hs.pb.put nf .lst
  have key : ∀ (j : Nat) (es : List D), (ρ.set k (some (.ml ds')))[j]? = some (some (.ml es)) → (k = j ∨ (k ≠ j ∧ ρ[j]? = some (some (.ml es)))) := fun j es f => by
    by_cases hj : k = j
    · exact .inl hj
    · rw [List.getElem?_set_ne hj] at f
      exact .inr ⟨hj, f⟩
  refine ⟨⟨⟨fun b o h => ?_, s.grow.sub, s.grow.new, pb, s.grow.le⟩, ⟨pb, by simp [s.hs.len], fun j y ej => ?_⟩, fun j es b f1 f2 => ?_, fun j j2 es fs b hne f1 f2 f3 f4 => ?_⟩, l⟩
  · have hb : b ≠ a := fun e => by rw [e, hB] at h; cases h
    rw [upd_ne hb]
    exact s.grow.keep b o h
  · by_cases hj : k = j
    · subst hj
      rw [List.getElem?_set_self (List.getElem?_eq_some_iff.mp e).1] at ej
      have ej := Option.some.inj (Option.some.inj ej)
      subst ej
      exact ⟨_, e1, a, vs', rfl, upd_same, hl.out nf, nf⟩
    · rw [List.getElem?_set_ne hj] at ej
      obtain ⟨w, w1, w2⟩ := s.hs.at_ j y ej
      refine ⟨w, w1, ?_⟩
      cases y with
      | d x => exact Has.out nf w2
      | ml es =>
        obtain ⟨b, ws, rfl, hb, hl2, nf2⟩ := w2
        have hba : b ≠ a := fun q => s.sep k j ds es a hj e ej e1 (q ▸ w1)
        exact ⟨b, ws, rfl, (upd_ne hba).trans hb, hl2.out nf, nf2⟩
  · rcases key j es f1 with rfl | ⟨_, g⟩
    · exact s.own k ds b e f2
    · exact s.own j es b g f2
  · rcases key j es f1 with rfl | ⟨h1, g1⟩
    · rcases key j2 fs f2 with rfl | ⟨h2, g2⟩
      · exact hne rfl
      · exact s.sep k j2 ds fs b hne e g2 f3 f4
    · rcases key j2 fs f2 with rfl | ⟨h2, g2⟩
      · exact s.sep j k es ds b hne g1 e f3 f4
      · exact s.sep j j2 es fs b hne g1 g2 f3 f4
def dAppend (k : Nat) (t : TD D) : TDS := fun E ρ n => match ρ[k]? with
  | some (some (.ml ds)) => onE t (fun d ρ n => ds.length < sizeLine ∧ E.nx (ρ.set k (some (.ml (ds ++ [d])))) n) E ρ n
  | _ => False
theorem DS.append {k : Nat} {o e : Expr} {t : TD D} {p1 p2 pos : Pos} {K : PySem.W.Frag} (hK : ∀ i, (X i).K = K) (ho : ∀ i, PE (X i) o (tVar k)) (h : DE X W e t)
    (hp : ∀ i ta, PA (X i) [e] ta → PE (X i) (.Call (.Attribute o "append" p1) [e] [] p2) (tBM (X i).K "list" rAppend (tVar k) ta))
    (hst : ∀ i, starEach [e] (X i).env = (false, eval e (X i).env) :: starEach [] (X i).env := by intro _; rfl) (hs : ∀ i, swapsWith (.Call (.Attribute o "append" p1) [e] [] p2) none pos.line (X i).env = pure false := by intro _; rfl) :
    DS X W (.Expr (.Call (.Attribute o "append" p1) [e] [] p2) pos) (dAppend k t) := by
  obtain ⟨te, p, r⟩ := h
  refine ⟨tDrop (tBM K "list" rAppend (tVar k) (tCons te tNil)), fun i => by rw [← hK i]; exact ps_expr (hp i _ (pa_cons (p i) pa_nil (hst i))) (hs i), fun B F H n σ ρ E Z s h eo => ?_⟩
  have h : (match ρ[k]? with
    | some (some (.ml ds)) => onE t (fun d ρ n => ds.length < sizeLine ∧ E.nx (ρ.set k (some (.ml (ds ++ [d])))) n) E ρ n
    | _ => False) := h
  match e : ρ[k]? with
  | some (some (.d _)) => rw [e] at h; exact h.elim
  | some none => rw [e] at h; exact h.elim
  | none => rw [e] at h; exact h.elim
  | some (some (.ml ds)) =>
    rw [e] at h
    obtain ⟨v, e1, a, vs, rfl, ha, hl, nf⟩ := s.hs.at_ k _ e
    refine ⟨.ref a, e1, .inl ⟨rfl, _, .of ha⟩, ?_⟩
    refine r.on s h eo fun w d F' H' n' s' g hw hk eo' => ?_
    obtain ⟨v', e1', a', vs', ev, ha', hl', nf'⟩ := s'.hs.at_ k _ e
    rw [e1] at e1'
    cases e1'
    cases ev
    refine ⟨a, vs', w, rfl, rfl, ha', by rw [hl'.len]; exact hk.1, ?_⟩
    obtain ⟨s2, l2⟩ := s'.own_put e e1 ha' nf' (hl'.snoc hw)
    exact eo'.nx σ _ F' _ n' s2 l2 hk.2
end
end DL


set_option maxRecDepth 100000
set_option maxHeartbeats 2000000
/-! DL3: loops, comprehensions, functions by data. Own work. -/
namespace DL
open PySem PySem.Spec PyProof.Rows L2

/-! ### what is walked -/
structure Yld (J : It) (F : Addr → Prop) (H : Hp) (n : Nat) (ds : List D) : Prop where
  stop : ∀ i F' H' n', Later F H n F' H' n' → ds.length ≤ i → J.stop i H'
  go : ∀ i d F' H' n', Later F H n F' H' n' → PenB F' H' n' → ds[i]? = some d → J.go i H' ∧ ∀ x H'', J.yld i H' x H'' → ∃ F'', Grow F' H' n' F'' H'' n' ∧ Has F'' H'' x d
def RunI (W : WX) (wi : TI) (t : TD (List D)) : Prop := ∀ (F : Addr → Prop) (H : Hp) (n : Nat) (σ : L2.St) (ρ : Env') (K : List D → Nat → Prop) (X : XD → Nat → Prop) (R : It → Hp → Prop), HasS F H n σ ρ → t ρ K X n →
  (∀ J ds F' H' n', Grow F H n F' H' n' → Yld J F' H' n' ds → K ds n' → R J H') →
  (∀ cls od xd F' H' n', Grow F H n F' H' n' → HasX F' H' cls od xd → X xd n' → W cls od σ H') → wi σ H R
structure DI {ι : Type} (X : ι → Cx) (W : WX) (tg iter : Expr) (t : TD (List D)) : Prop where
  ex : ∃ wi, (∀ i, PI (X i) tg iter wi) ∧ RunI W wi t
theorem HasL.get {F : Addr → Prop} {H : Hp} : ∀ {vs : List V} {ds : List D} {i : Nat} {d : D}, HasL F H vs ds → ds[i]? = some d → ∃ v, vs[i]? = some v ∧ Has F H v d
  | _, _, _, _, .nil, e => by simp at e
  | _, _, 0, _, .cons h _, e => by simp at e; subst e; exact ⟨_, rfl, h⟩
  | _, _, i + 1, _, .cons _ l, e => by
    obtain ⟨v, h1, h2⟩ := HasL.get (i := i) l (by simpa using e)
    exact ⟨v, by simpa using h1, h2⟩
section
variable {X : Cx} {tg : Expr}
/-- a list or a tuple -/
def iSeq (tl : TE) : TI := fun σ H R => tl σ H fun x H1 => ∃ a xs, x = .ref a ∧ ((H1 a = some (.lst xs) ∧ R (Itl X.K a) H1) ∨ (H1 a = some (.tup xs) ∧ R (Itt X.K a) H1))
theorem pi_seq {l : Expr} {tl : TE} (hl : PE X l tl) : PI X tg l (iSeq (X := X) tl) := by
  refine ⟨fun pins s σ H R I h => ?_⟩
  refine thn (hl.run pins s σ H _ I h) fun v s1 ⟨x, H1, I1, r1, q1⟩ => ?_
  obtain ⟨a, xs, e, q⟩ := q1
  subst e
  cases r1
  have fp : ∀ b ∈ [s1.heap.objs.size], FpOk X pins H1 b := fun b hb => by
    have e : b = s1.heap.objs.size := by simpa using hb
    subst e
    exact I1.fpOk (Nat.le_refl _) (I1.hok.fresh (Nat.le_refl _))
  rcases q with ⟨ha, q⟩ | ⟨ha, q⟩
  · obtain ⟨its, rv, p, hz⟩ := I1.list (.of ha)
    refine wpAny_pyIter_list p.isList ?_
    exact ⟨s1.heap.objs.size, [s1.heap.objs.size], _, _, H1, rfl, I1.kept (t' := s1.toks) fun b o e => Heap.get?_push_of_some _ e, turn_list a _, ⟨_, Heap.get?_push_size _ rfl, rfl, rfl⟩, fp, q⟩
  · obtain ⟨its, rv, p, hz⟩ := I1.tuple (.of ha)
    refine wpAny_pyIter_tuple (show s1.heap.IsTuple a its.toArray from p) ?_
    exact ⟨s1.heap.objs.size, [s1.heap.objs.size], _, _, H1, rfl, I1.kept (t' := s1.toks) fun b o e => Heap.get?_push_of_some _ e, turn_tuple a _, ⟨_, Heap.get?_push_size _ rfl, rfl, rfl⟩, fp, q⟩
end
section
variable {ι : Type} {X : ι → Cx} {W : WX}
theorem yld_list {K : PySem.W.Frag} {F : Addr → Prop} {H : Hp} {n : Nat} {a : Addr} {vs : List V} {ds : List D} (f : F a) (ha : H a = some (.lst vs)) (hl : HasL F H vs ds) : Yld (Itl K a) F H n ds where
  stop := fun i F' H' n' l hi => ⟨vs, .of (l.keepL f ha .lst), by rw [hl.len]; exact hi⟩
  go := fun i d F' H' n' l pb e => by
    have ha' := l.keepL f ha .lst
    obtain ⟨v, e1, hv⟩ := (hl.later l).get e
    refine ⟨⟨vs, v, .of ha', e1⟩, fun x H'' y => ?_⟩
    obtain ⟨rfl, y⟩ := y
    have e2 := y vs (.of ha')
    rw [e1] at e2
    cases e2
    exact ⟨F', .refl pb, hv⟩
theorem yld_tup {K : PySem.W.Frag} {F : Addr → Prop} {H : Hp} {n : Nat} {a : Addr} {vs : List V} {ds : List D} (f : F a) (ha : H a = some (.tup vs)) (hl : HasL F H vs ds) : Yld (Itt K a) F H n ds where
  stop := fun i F' H' n' l hi => ⟨vs, .of (l.keepL f ha .tup), by rw [hl.len]; exact hi⟩
  go := fun i d F' H' n' l pb e => by
    have ha' := l.keepL f ha .tup
    obtain ⟨v, e1, hv⟩ := (hl.later l).get e
    refine ⟨⟨vs, v, .of ha', e1⟩, fun x H'' y => ?_⟩
    obtain ⟨rfl, y⟩ := y
    have e2 := y vs (.of ha')
    rw [e1] at e2
    cases e2
    exact ⟨F', .refl pb, hv⟩
theorem yld_scr {K : PySem.W.Frag} {F : Addr → Prop} {H : Hp} {n : Nat} {a : Addr} {ns : List Int} (h : (∃ o, F a ∧ H a = some (.frz o (.lst (ns.map V.int)))) ∨ ∀ H' : Hp, SqL K H' a (ns.map V.int)) : Yld (Itl K a) F H n (ns.map D.int) where
  stop := fun i F' H' n' l hi => ⟨ns.map V.int, h.elim (fun ⟨o, f, e⟩ => .inl (.inr ⟨o, l.keepL f e .frz⟩)) (fun k => k H'), by simpa using hi⟩
  go := fun i d F' H' n' l pb e => by
    have hs : SqL K H' a (ns.map V.int) := h.elim (fun ⟨o, f, e⟩ => .inl (.inr ⟨o, l.keepL f e .frz⟩)) (fun k => k H')
    rw [List.getElem?_map] at e
    obtain ⟨z, e1, e2⟩ := Option.map_eq_some_iff.mp e
    subst e2
    have e3 : (ns.map V.int)[i]? = some (.int z) := by rw [List.getElem?_map, e1]; rfl
    refine ⟨⟨ns.map V.int, _, hs, e3⟩, fun x H'' y => ?_⟩
    obtain ⟨rfl, y⟩ := y
    have e4 := y _ hs
    rw [e3] at e4
    cases e4
    exact ⟨F', .refl pb, .int _⟩
/-- the items of a list or tuple -/
def itemsOf : D → Wm (List D)
  | .lst ds => pure ds
  | .tup ds => pure ds
  | _ => Wm.fail
theorem DI.scr {tg l : Expr} {t : TD D} {K : PySem.W.Frag} (hK : ∀ i, (X i).K = K) (h : DE X W l t) : DI X W tg l (fun ρ => do match ← t ρ with | .scr K' ns _ => do Wm.need (K' = K); pure (ns.map D.int) | _ => Wm.fail) := by
  obtain ⟨te, p, r⟩ := h
  refine ⟨iList K te, fun i => by rw [← hK i]; exact pi_list (p i), fun F H n σ ρ Kd Kx R hs ht hq hx => ?_⟩
  refine r F H n σ ρ _ Kx _ hs ht (fun v d F1 H1 n1 g1 hv ht1 => ?_) hx
  cases hv with
  | @scr a K' ns tabs h _ =>
    obtain ⟨rfl, hk⟩ := ht1
    exact ⟨a, rfl, ⟨ns.map V.int, h.elim (fun ⟨o, f, e⟩ => .inl (.inr ⟨o, e⟩)) (fun k => k H1)⟩, hq _ _ F1 H1 n1 g1 (yld_scr h) hk⟩
  | _ => exact ht1.elim
theorem DI.seq {tg l : Expr} {t : TD D} {K : PySem.W.Frag} (hK : ∀ i, (X i).K = K) (h : DE X W l t) : DI X W tg l (fun ρ => do itemsOf (← t ρ)) := by
  obtain ⟨te, p, r⟩ := h
  refine ⟨fun σ H R => te σ H fun x H1 => ∃ a xs, x = .ref a ∧ ((H1 a = some (.lst xs) ∧ R (Itl K a) H1) ∨ (H1 a = some (.tup xs) ∧ R (Itt K a) H1)), fun i => by rw [← hK i]; exact pi_seq (p i), fun F H n σ ρ Kd Kx R hs ht hq hx => ?_⟩
  refine r F H n σ ρ _ Kx _ hs ht (fun v d F1 H1 n1 g1 hv ht1 => ?_) hx
  cases hv with
  | @lst a vs ds f ha hl => exact ⟨a, vs, rfl, .inl ⟨ha, hq _ ds F1 H1 n1 g1 (yld_list f ha hl) ht1⟩⟩
  | @tup a vs ds f ha hl => exact ⟨a, vs, rfl, .inr ⟨ha, hq _ ds F1 H1 n1 g1 (yld_tup f ha hl) ht1⟩⟩
  | _ => exact ht1.elim
def rangeD (lo : Int) (k : Nat) : List D := (List.range k).map fun (j : Nat) => .int (lo + j)
theorem yld_range {F : Addr → Prop} {H : Hp} {n : Nat} {lo : Int} {k : Nat} : Yld (Itr lo k) F H n (rangeD lo k) where
  stop := fun i F' H' n' l hi => by
    have : k ≤ i := by simpa [rangeD] using hi
    exact this
  go := fun i d F' H' n' l pb e => by
    unfold rangeD at e
    rw [List.getElem?_map] at e
    obtain ⟨j, e1, e2⟩ := Option.map_eq_some_iff.mp e
    have hj : i < k ∧ j = i := by
      obtain ⟨h1, h2⟩ := List.getElem?_eq_some_iff.mp e1
      simp at h1 h2
      exact ⟨h1, h2.symm⟩
    obtain ⟨hk, rfl⟩ := hj
    refine ⟨hk, fun x H'' y => ?_⟩
    obtain ⟨rfl, rfl⟩ := y
    subst e2
    exact ⟨F', .refl pb, .int _⟩
/-- range's bounds -/
def Small62 (i : Int) : Prop := -(2 ^ 62) ≤ i ∧ i < 2 ^ 62
def rangeOf : List D → Wm (List D)
  | [.int j] => do Wm.need (Small62 j); pure (rangeD 0 j.toNat)
  | _ => Wm.fail
def rangeOf2 : List D → Wm (List D)
  | [.int i, .int j] => do Wm.need (Small62 i ∧ Small62 j); pure (rangeD i (j - i).toNat)
  | _ => Wm.fail
theorem DI.range1 {tg a : Expr} {t : TD (List D)} {p pos : Pos} (hg : ∀ i, Gl (X i) "range") (hm : ∀ i, (X i).mg "range" = none) (h : DA X W [a] t) (hs : ∀ i, starEach [a] (X i).env = [(false, eval a (X i).env)] := by intro _; rfl) :
    DI X W tg (.Call (.Name "range" p) [a] [] pos) (fun ρ => do rangeOf (← t ρ)) := by
  obtain ⟨ta, pa, r⟩ := h
  refine ⟨_, fun i => pi_range1 (hg i) (hm i) (pa i) (hs i), fun F H n σ ρ Kd Kx R hs ht hq hx => ?_⟩
  refine r F H n σ ρ _ Kx _ hs ht (fun vs ds F1 H1 n1 g1 hv ht1 => ?_) hx
  cases hv with
  | nil => exact ht1.elim
  | cons h1 h2 =>
    cases h2 with
    | nil =>
      cases h1 with
      | int j => exact ⟨j, rfl, ht1.1.1, ht1.1.2, hq _ _ F1 H1 n1 g1 yld_range ht1.2⟩
      | _ => exact ht1.elim
    | cons h2 h3 => cases h1 <;> exact ht1.elim
theorem DI.range2 {tg a b : Expr} {t : TD (List D)} {p pos : Pos} (hg : ∀ i, Gl (X i) "range") (hm : ∀ i, (X i).mg "range" = none) (h : DA X W [a, b] t) (hs : ∀ i, starEach [a, b] (X i).env = [(false, eval a (X i).env), (false, eval b (X i).env)] := by intro _; rfl)
    (hs2 : ∀ i, starEach [b] (X i).env = [(false, eval b (X i).env)] := by intro _; rfl) :
    DI X W tg (.Call (.Name "range" p) [a, b] [] pos) (fun ρ => do rangeOf2 (← t ρ)) := by
  obtain ⟨ta, pa, r⟩ := h
  refine ⟨_, fun i => pi_range2 (hg i) (hm i) (pa i) (hs i) (hs2 i), fun F H n σ ρ Kd Kx R hs ht hq hx => ?_⟩
  refine r F H n σ ρ _ Kx _ hs ht (fun vs ds F1 H1 n1 g1 hv ht1 => ?_) hx
  cases hv with
  | nil => exact ht1.elim
  | cons h1 h2 =>
    cases h2 with
    | nil => cases h1 <;> exact ht1.elim
    | cons h2 h3 =>
      cases h3 with
      | nil =>
        cases h1 <;> cases h2 <;> first | exact ht1.elim | skip
        rename_i i j
        exact ⟨i, j, rfl, ⟨ht1.1.1.1, ht1.1.1.2, ht1.1.2.1, ht1.1.2.2⟩, hq _ _ F1 H1 n1 g1 yld_range ht1.2⟩
      | cons h4 h5 => cases h1 <;> cases h2 <;> exact ht1.elim

/-! ### for -/
def forD (g : TDG) (tb : TDS) : List D → TDS
  | [], E, ρ, n => E.nx ρ n
  | d :: ds, E, ρ, n => match g d ρ with
    | some ρ' => tb { E with nx := fun ρ'' n'' => forD g tb ds E ρ'' n'', ct := fun ρ'' n'' => forD g tb ds E ρ'' n'', bk := E.nx } ρ' n
    | none => False
def dFor (ti : TD (List D)) (g : TDG) (tb : TDS) : TDS := fun E ρ n => ti ρ (fun ds n' => forD g tb ds E ρ n') (fun x n' => E.ex x ρ n') n
theorem DS.for {tg iter : Expr} {body : List Stmt} {ti : TD (List D)} {g : TDG} {us : List Nat} {tb : TDS} {pos : Pos} (hp : ∀ i, PassesOwn (model (X i).prog (X i).w) (X i).A (X i).env (X i).xe) (hc : ∀ i, (X i).calm = true) (hi : DI X W tg iter ti) (hg : DG X tg g us) (hb : DSs X W body tb)
    (hs : ∀ i x, foldedSetIterable iter (X i).env x = pure x := by intro _ _; rfl) : DS X W (.For tg iter body [] pos) (dFor ti g tb) := by
  obtain ⟨wi, pi, ri⟩ := hi
  obtain ⟨tgk, pg, rg⟩ := hg
  obtain ⟨ts, pb, rb⟩ := hb
  refine ⟨_, fun i => ps_for (hp i) (hc i) (pi i) (pg i) (pb i) (hs i), fun B F H n σ ρ E Z s h eo => ?_⟩
  refine ri F H n σ ρ _ _ _ s.hs h (fun J ds F1 H1 n1 g1 y hk => ?_) fun cls od xd F' H' n' g hx he => eo.ex cls od xd σ ρ F' H' n' (s.mono g) g.later hx he
  refine ⟨fun i m σ H => m = ds.length - i ∧ i ≤ ds.length ∧ ∃ F n ρ, Stt B F H n σ ρ ∧ Later F1 H1 n1 F H n ∧ forD g tb (ds.drop i) E ρ n, ⟨ds.length, by simp, Nat.zero_le _, F1, n1, ρ, s.mono g1, .refl, hk⟩, ?_⟩
  rintro i m σ2 H2 ⟨rfl, hle, F2, n2, ρ2, s2, l2, h2⟩
  by_cases hlt : i < ds.length
  · have ei : ds[i]? = some ds[i] := List.getElem?_eq_getElem hlt
    obtain ⟨go, yy⟩ := y.go i ds[i] F2 H2 n2 l2 s2.hs.pb ei
    have ed : ds.drop i = ds[i] :: ds.drop (i + 1) := List.drop_eq_getElem_cons hlt
    rw [ed] at h2
    have h2 : (match g ds[i] ρ2 with
      | some ρ' => tb { E with nx := fun ρ'' n'' => forD g tb (ds.drop (i + 1)) E ρ'' n'', ct := fun ρ'' n'' => forD g tb (ds.drop (i + 1)) E ρ'' n'', bk := E.nx } ρ' n2
      | none => False) := h2
    refine .inr ⟨go, fun σ3 H3 => ∃ F n ρ, Stt B F H3 n σ3 ρ ∧ Later F1 H1 n1 F H3 n ∧ forD g tb (ds.drop (i + 1)) E ρ n, fun σ3 H3 ⟨F3, n3, ρ3, s3, l3, h3⟩ => ⟨ds.length - (i + 1), by omega, rfl, hlt, F3, n3, ρ3, s3, l3, h3⟩, fun x H'' hy => ?_⟩
    obtain ⟨F'', g2, hx⟩ := yy x H'' hy
    cases q : g ds[i] ρ2 with
    | none => rw [q] at h2; exact h2.elim
    | some ρ' =>
      rw [q] at h2
      refine rg F'' H'' n2 σ2 ρ2 ρ' x ds[i] _ (s2.mono g2).hs hx q fun σ' s'' o => ?_
      have s' := (s2.mono g2).only s'' o
      have la : Later F1 H1 n1 F'' H'' n2 := l2.trans g2.later
      refine rb B F'' H'' n2 σ' ρ' _ _ s' h2 ⟨fun σ4 ρ4 F4 H4 n4 s4 l4 h4 => ⟨F4, n4, ρ4, s4, la.trans l4, h4⟩, fun σ4 ρ4 F4 H4 n4 s4 l4 h4 => eo.nx σ4 ρ4 F4 H4 n4 s4 (g1.later.trans (la.trans l4)) h4,
        fun σ4 ρ4 F4 H4 n4 s4 l4 h4 => ⟨F4, n4, ρ4, s4, la.trans l4, h4⟩, eo.rt, fun cls od xd σ4 ρ4 F4 H4 n4 s4 l4 hx he => eo.ex cls od xd σ4 ρ4 F4 H4 n4 s4 (g1.later.trans (la.trans l4)) hx he⟩
  · have e : i = ds.length := by omega
    subst e
    rw [List.drop_length] at h2
    exact .inl ⟨y.stop _ F2 H2 n2 l2 (Nat.le_refl _), eo.nx σ2 ρ2 F2 H2 n2 s2 (g1.later.trans l2) h2⟩

/-! ### while -/
def whileD (c : TD Bool) (tb : TDS) : Nat → TDS
  | 0, _, _, _ => False
  | k + 1, E, ρ, n => onT c (fun b ρ' n' => if b = true then tb { E with nx := fun ρ'' n'' => whileD c tb k E ρ'' n'', ct := fun ρ'' n'' => whileD c tb k E ρ'' n'', bk := E.nx } ρ' n' else E.nx ρ' n') E ρ n
def dWhile (c : TD Bool) (tb : TDS) : TDS := fun E ρ n => ∃ k, whileD c tb k E ρ n
theorem DS.while {c : Expr} {body : List Stmt} {tc : TD Bool} {tb : TDS} {pos : Pos} (hp : ∀ i, PassesOwn (model (X i).prog (X i).w) (X i).A (X i).env (X i).xe) (hc : DT X W c tc) (hb : DSs X W body tb) : DS X W (.While c body [] pos) (dWhile tc tb) := by
  obtain ⟨tt, pt, rt⟩ := hc
  obtain ⟨ts, pb, rb⟩ := hb
  refine ⟨_, fun i => ps_while (hp i) (pt i) (pb i), fun B F H n σ ρ E Z s h eo => ?_⟩
  obtain ⟨k, h⟩ := h
  refine ⟨fun m σ H' => ∃ F' n' ρ, Stt B F' H' n' σ ρ ∧ Later F H n F' H' n' ∧ whileD tc tb m E ρ n', ⟨k, F, n, ρ, s, .refl, h⟩, ?_⟩
  rintro m σ2 H2 ⟨F2, n2, ρ2, s2, l2, h2⟩
  cases m with
  | zero => exact h2.elim
  | succ m =>
    have h2 : onT tc (fun b ρ' n' => if b = true then tb { E with nx := fun ρ'' n'' => whileD tc tb m E ρ'' n'', ct := fun ρ'' n'' => whileD tc tb m E ρ'' n'', bk := E.nx } ρ' n' else E.nx ρ' n') E ρ2 n2 := h2
    refine rt.on s2 h2 (eo.later l2) fun b F3 H3 n3 s3 g3 hk eo3 => ?_
    cases b with
    | false => exact iteF (eo3.nx σ2 ρ2 F3 H3 n3 s3 .refl (by simpa using hk))
    | true =>
      have la : Later F H n F3 H3 n3 := l2.trans g3.later
      rw [if_pos rfl] at hk
      refine iteT ⟨fun σ4 H4 => ∃ F4 n4 ρ4, Stt B F4 H4 n4 σ4 ρ4 ∧ Later F H n F4 H4 n4 ∧ whileD tc tb m E ρ4 n4, fun σ4 H4 h4 => ⟨m, Nat.lt_succ_self m, h4⟩, ?_⟩
      exact rb B F3 H3 n3 σ2 ρ2 _ _ s3 hk ⟨fun σ4 ρ4 F4 H4 n4 s4 l4 h4 => ⟨F4, n4, ρ4, s4, la.trans l4, h4⟩, fun σ4 ρ4 F4 H4 n4 s4 l4 h4 => eo3.nx σ4 ρ4 F4 H4 n4 s4 l4 h4,
        fun σ4 ρ4 F4 H4 n4 s4 l4 h4 => ⟨F4, n4, ρ4, s4, la.trans l4, h4⟩, eo.rt, fun cls od xd σ4 ρ4 F4 H4 n4 s4 l4 hx he => eo3.ex cls od xd σ4 ρ4 F4 H4 n4 s4 l4 hx he⟩
end

/-! ### a def by its body -/
/-- what a body gives for data -/
def bodyW (t : TDS) (N : Nat) (ds : List D) : Wm D := fun K X n => t { nx := fun _ n' => K .non n', rt := K, bk := fun _ _ => False, ct := fun _ _ => False, ex := fun x _ n' => X x n' } (ds.map (fun d => some (.d d)) ++ List.replicate (N - ds.length) none) n
theorem start_hasS {F : Addr → Prop} {H : Hp} {n : Nat} {vs : List V} {ds : List D} {N : List Str} (pb : PenB F H n) (h : HasL F H vs ds) : HasS F H n (L2.start N vs) (ds.map (fun d => some (.d d)) ++ List.replicate (N.length - ds.length) none) := by
  refine ⟨pb, by simp [L2.start, h.len], fun i x e => ?_⟩
  unfold L2.start
  by_cases hi : i < ds.length
  · rw [List.getElem?_append_left (by simpa using hi), List.getElem?_map] at e
    obtain ⟨d, e1, e2⟩ := Option.map_eq_some_iff.mp e
    cases e2
    obtain ⟨v, e3, hv⟩ := h.get e1
    refine ⟨v, ?_, hv⟩
    rw [List.getElem?_append_left (by simpa [h.len] using hi), List.getElem?_map, e3]
    rfl
  · rw [List.getElem?_append_right (by simpa using Nat.le_of_not_lt hi), List.getElem?_replicate] at e
    split at e <;> cases e
theorem start_noml {ds : List D} {N i : Nat} {es : List D} : (ds.map (fun d => some (SV.d d)) ++ List.replicate (N - ds.length) none)[i]? ≠ some (some (.ml es)) := by
  intro e
  by_cases hi : i < ds.length
  · rw [List.getElem?_append_left (by simpa using hi), List.getElem?_map] at e
    obtain ⟨d, e1, e2⟩ := Option.map_eq_some_iff.mp e
    cases e2
  · rw [List.getElem?_append_right (by simpa using Nat.le_of_not_lt hi), List.getElem?_replicate] at e
    split at e <;> cases e
/-- the context of a def's body -/
abbrev bCx (P : Program) (w : World) (K : PySem.W.Frag) (mg : Str → Option Value) (base : Heap) (N : List Str) (qual : Str) (st : Stmt) (f : Addr) (cdv : Value) (A : Around) (outer : List Env) (s : Shared) (H : Hp) (E : XK) : Unit → Cx :=
  fun _ => cxOf (L2.CX P w) P w K mg base N qual (defScope st) f cdv A outer s H E
abbrev bW (E : XK) : WX := fun cls d _ H => E cls d H
theorem fn_ok {P : Program} {w : World} {K : PySem.W.Frag} {mg : Str → Option Value} {base : Heap} {x qual : Str} {st : Stmt} {f : Addr} {fd : FuncData} {N ps : List Str} {k : Nat} {t : TDS} {w' : List D → Wm D} (F : Fun K x qual st f fd) (S : FnScope N ps (defScope st))
    (hbody : ∀ (cdv : Value) (A : Around) (outer : List Env) (s : Shared) (H : Hp) (E : XK), A.guards = some [] → Room k (A.deeper (envOfC qual (defScope st) s.heap.objs.size f cdv)) → DSs (bCx P w K mg base N qual st f cdv A outer s H E) (bW E) (defBody st) t)
    (hw : ∀ ds Kd Kx n, ds.length = ps.length → w' ds Kd Kx n → bodyW t N.length ds Kd Kx n) : FnG P w K mg base (k + 1) f fd ps (spD ps.length w') := by
  refine FnG.of F S (fun vs H Q E h => h.1) fun cdv _ A outer s H vs Q E hg hr h => ?_
  obtain ⟨hl, F0, n, ds, Kd, Kx, pb, hv, hw', hq, hx⟩ := h
  obtain ⟨ts, p, r⟩ := hbody cdv A outer s H E hg hr
  refine ⟨ts, p (), ?_⟩
  have hd : ds.length = ps.length := by rw [← hv.len]; exact hl
  have h0 := hw ds Kd Kx n hd hw'
  refine r ⟨F0, H, n⟩ F0 H n _ _ _ _ ⟨.refl pb, start_hasS pb hv, fun i es a e => absurd e start_noml, fun i j es fs a _ e => absurd e start_noml⟩ h0 ⟨fun σ' ρ' F' H' n' s' l hn => hq .non .non F' H' n' s'.grow .non hn, fun _ _ _ _ _ _ _ z => z.elim, fun _ _ _ _ _ _ _ z => z.elim,
    fun v d F' H' n' g hv' hk => hq v d F' H' n' g hv' hk, fun cls od xd σ' ρ' F' H' n' s' l hx' he => hx cls od xd F' H' n' s'.grow hx' he⟩

/-- the same, where the cells' places are told -/
theorem fn_okL {P : Program} {w : World} {K : PySem.W.Frag} {mg : Str → Option Value} {base : Heap} {x qual : Str} {st : Stmt} {f : Addr} {fd : FuncData} {N ps : List Str} {k : Nat} {t : Nat → TDS} {w' : List D → Wm D} (F : Fun K x qual st f fd) (S : FnScope N ps (defScope st))
    (hbody : ∀ (cdv : Value), fd.code = cdv → ∀ (A : Around) (outer : List Env) (s : Shared) (H : Hp) (E : XK) (L : Nat), s.heap.objs.size = L → A.guards = some [] → Room k (A.deeper (envOfC qual (defScope st) s.heap.objs.size f cdv)) → DSs (bCx P w K mg base N qual st f cdv A outer s H E) (bW E) (defBody st) (t L))
    (hw : ∀ L ds Kd Kx n, ds.length = ps.length → w' ds Kd Kx n → bodyW (t L) N.length ds Kd Kx n) : FnG P w K mg base (k + 1) f fd ps (spD ps.length w') := by
  refine FnG.of F S (fun vs H Q E h => h.1) fun cdv hcd A outer s H vs Q E hg hr h => ?_
  obtain ⟨hl, F0, n, ds, Kd, Kx, pb, hv, hw', hq, hx⟩ := h
  obtain ⟨ts, p, r⟩ := hbody cdv hcd A outer s H E _ rfl hg hr
  refine ⟨ts, p (), ?_⟩
  have hd : ds.length = ps.length := by rw [← hv.len]; exact hl
  have h0 := hw s.heap.objs.size ds Kd Kx n hd hw'
  refine r ⟨F0, H, n⟩ F0 H n _ _ _ _ ⟨.refl pb, start_hasS pb hv, fun i es a e => absurd e start_noml, fun i j es fs a _ e => absurd e start_noml⟩ h0 ⟨fun σ' ρ' F' H' n' s' l hn => hq .non .non F' H' n' s'.grow .non hn, fun _ _ _ _ _ _ _ z => z.elim, fun _ _ _ _ _ _ _ z => z.elim,
    fun v d F' H' n' g hv' hk => hq v d F' H' n' g hv' hk, fun cls od xd σ' ρ' F' H' n' s' l hx' he => hx cls od xd F' H' n' s'.grow hx' he⟩

/-! ### comprehensions -/
section
variable {ι : Type} {X : ι → Cx} {W : WX}
/-- the block's contexts -/
abbrev blkX (X : ι → Cx) (scope : Scope) : ι × Shared × Hp × Addr × List (Str × Addr) × List Addr → Cx := fun p => (X p.1).blk p.2.1 p.2.2.1 scope (compEnvC scope p.2.2.2.2.1 p.2.2.2.1 (X p.1).env) p.2.2.2.2.2
/-- no exception leaves it -/
abbrev W0 : WX := fun _ _ _ _ => False
def wipeD (ρ : Env') : List Nat → Env'
  | [] => ρ
  | v :: vs => (wipeD ρ vs).set v none
/-- turn by turn -/
def lcD (g : TDG) (tt : TD Bool) (te : TD D) : List D → Env' → List D → Wm (List D)
  | [], _, acc => pure acc
  | d :: ds, ρ, acc => match g d ρ with
    | some ρ' => do if ← calm (tt ρ') then (do let y ← calm (te ρ'); Wm.need (acc.length < sizeLine); lcD g tt te ds ρ (acc ++ [y])) else lcD g tt te ds ρ acc
    | none => Wm.fail
def dLc (ti : TD (List D)) (g : TDG) (tt : TD Bool) (te : TD D) (vs : List Nat) : TD D := fun ρ => do let ds ← ti ρ; let ys ← lcD g tt te ds (wipeD ρ vs) []; pure (.lst ys)

theorem wipe_get {σ : L2.St} {vs : List Nat} {i : Nat} : (wipe σ vs)[i]? = if i ∈ vs ∧ i < σ.length then some none else σ[i]? := by
  induction vs with
  | nil => simp [wipe]
  | cons v vs ih =>
    unfold wipe
    by_cases hv : v = i
    · subst hv
      by_cases hl : v < σ.length
      · rw [List.getElem?_set_self (by rw [wipe_length]; exact hl), if_pos ⟨by simp, hl⟩]
      · rw [List.getElem?_eq_none (by simp [wipe_length]; omega), if_neg (fun z => hl z.2), List.getElem?_eq_none (by omega)]
    · rw [List.getElem?_set_ne hv, ih]
      have hm : i ∈ v :: vs ↔ i ∈ vs := by simp [Ne.symm hv]
      simp [hm]
theorem wipeD_get {ρ : Env'} {vs : List Nat} {i : Nat} : (wipeD ρ vs)[i]? = if i ∈ vs ∧ i < ρ.length then some none else ρ[i]? := by
  have len : ∀ vs : List Nat, (wipeD ρ vs).length = ρ.length := fun vs => by
    induction vs with
    | nil => rfl
    | cons v vs ih => unfold wipeD; rw [List.length_set, ih]
  induction vs with
  | nil => simp [wipeD]
  | cons v vs ih =>
    unfold wipeD
    by_cases hv : v = i
    · subst hv
      by_cases hl : v < ρ.length
      · rw [List.getElem?_set_self (by rw [len]; exact hl), if_pos ⟨by simp, hl⟩]
      · rw [List.getElem?_eq_none (by rw [List.length_set, len]; omega), if_neg (fun z => hl z.2), List.getElem?_eq_none (by omega)]
    · rw [List.getElem?_set_ne hv, ih]
      have hm : i ∈ v :: vs ↔ i ∈ vs := by simp [Ne.symm hv]
      simp [hm]
theorem wipeD_length {ρ : Env'} : ∀ {vs : List Nat}, (wipeD ρ vs).length = ρ.length
  | [] => rfl
  | v :: vs => by unfold wipeD; rw [List.length_set, wipeD_length]
theorem HasS.wipe {F : Addr → Prop} {H : Hp} {n : Nat} {σ : L2.St} {ρ : Env'} (h : HasS F H n σ ρ) (vs : List Nat) : HasS F H n (L2.wipe σ vs) (wipeD ρ vs) := by
  refine ⟨h.pb, by rw [wipe_length, wipeD_length, h.len], fun i x e => ?_⟩
  rw [wipeD_get] at e
  rw [wipe_get]
  by_cases hc : i ∈ vs ∧ i < ρ.length
  · rw [if_pos hc] at e
    cases e
  · rw [if_neg hc] at e
    rw [if_neg (by rw [h.len]; exact hc)]
    exact h.at_ i x e
theorem Only.wipe {ts vs : List Nat} {σ σ' : L2.St} {ρ ρ' : Env'} (o : Only ts (L2.wipe σ vs) σ' ρ ρ') (hs : ∀ i ∈ ts, i ∈ vs) : L2.wipe σ' vs = L2.wipe σ vs := by
  apply List.ext_getElem?
  intro i
  have hl : σ'.length = σ.length := by rw [o.ls, wipe_length]
  rw [wipe_get, wipe_get, hl]
  by_cases hc : i ∈ vs ∧ i < σ.length
  · rw [if_pos hc, if_pos hc]
  · rw [if_neg hc, if_neg hc]
    by_cases hi : i ∈ ts
    · have h1 : ¬ i < σ.length := fun z => hc ⟨hs i hi, z⟩
      rw [List.getElem?_eq_none (by omega), List.getElem?_eq_none (by omega)]
    · rw [(o.out i hi).1, wipe_get, if_neg hc]
structure DTs {ι : Type} (X : ι → Cx) (W : WX) (es : List Expr) (t : TD Bool) : Prop where
  ex : ∃ tt, (∀ i, PTs (X i) es tt) ∧ RunT W tt t
theorem DTs.nil : DTs X W [] (fun _ => pure true) := ⟨_, fun _ => pts_nil, fun F H n σ ρ K Kx Q hs ht hq _ => hq true F H n (.refl hs.pb) ht⟩
theorem DTs.one {c : Expr} {t : TD Bool} (h : DT X W c t) : DTs X W [c] t := let ⟨tt, p, r⟩ := h; ⟨tt, fun i => pts_one (p i), r⟩
/-- what a comprehension's reading is worth -/
theorem run_lc {wi : TI} {tgk : TG} {tt : TT} {te : TE} {ti : TD (List D)} {g : TDG} {us : List Nat} {ct : TD Bool} {ce : TD D} {vs : List Nat} (ri : RunI W wi ti) (rg : RunG tgk g us) (rt : RunT W0 tt ct) (re : RunE W0 te ce) (hus : ∀ i ∈ us, i ∈ vs) : RunE W (tLc wi tgk tt te vs) (dLc ti g ct ce vs) := by
  intro F H n σ ρ K Kx Q hs ht hq hx
  refine ri F H n σ ρ _ Kx _ hs ht (fun J ds F1 H1 n1 g1 y hk L hL => ?_) hx
  have hs1 := (hs.mono g1).wipe vs
  -- the turns
  have nF1 : ¬ F1 L := fun f => by
    obtain ⟨o, e⟩ := g1.pb.dom L f
    rw [hL] at e
    cases e
  refine ⟨fun i m H' => m = ds.length - i ∧ i ≤ ds.length ∧ ∃ F' n' av acc, Grow F1 H1 n1 F' H' n' ∧ ¬ F' L ∧ H' L = some (.lst av) ∧ HasL F' H' av acc ∧ (lcD g ct ce (ds.drop i) (wipeD ρ vs) acc).bind (fun ys => (pure (.lst ys) : Wm D)) K Kx n',
    ⟨ds.length, by simp, Nat.zero_le _, F1, n1, [], [], ?_, nF1, upd_same, .nil, hk⟩, ?_⟩
  · have g0 : Grow F1 H1 n1 (plusF F1 L) (upd H1 L (.lst [])) n1 := .laid g1.pb hL .lst
    exact ⟨g0.keep, fun _ f => f, fun _ f => .inl f, g1.pb.put nF1 .lst, Nat.le_refl _⟩
  rintro i m H2 ⟨rfl, hle, F2, n2, av, acc, g2, nF2, hL2, hacc, h2⟩
  by_cases hlt : i < ds.length
  · have ei : ds[i]? = some ds[i] := List.getElem?_eq_getElem hlt
    obtain ⟨go, yy⟩ := y.go i ds[i] F2 H2 n2 g2.later g2.pb ei
    have ed : ds.drop i = ds[i] :: ds.drop (i + 1) := List.drop_eq_getElem_cons hlt
    rw [ed] at h2
    refine .inr ⟨go, fun H' => ∃ F' n' av acc, Grow F1 H1 n1 F' H' n' ∧ ¬ F' L ∧ H' L = some (.lst av) ∧ HasL F' H' av acc ∧ (lcD g ct ce (ds.drop (i + 1)) (wipeD ρ vs) acc).bind (fun ys => (pure (.lst ys) : Wm D)) K Kx n',
      fun H' h => ⟨ds.length - (i + 1), by omega, rfl, hlt, h⟩, fun x H3 hy => ?_⟩
    obtain ⟨F3, g3, hxv⟩ := yy x H3 hy
    have keepL : ∀ {F' : Addr → Prop} {H' : Hp} {n' : Nat}, Grow F2 H2 n2 F' H' n' → ¬ F' L ∧ H' L = some (.lst av) := fun {F' H' n'} g => ⟨fun f => (g.new L f).elim nF2 fun z => (by rw [hL2] at z; cases z), g.keepL hL2 .lst⟩
    cases q : g ds[i] (wipeD ρ vs) with
    | none =>
      have h2 : (match g ds[i] (wipeD ρ vs) with
        | some ρ' => (do if ← calm (ct ρ') then (do let y ← calm (ce ρ'); Wm.need (acc.length < sizeLine); lcD g ct ce (ds.drop (i + 1)) (wipeD ρ vs) (acc ++ [y])) else lcD g ct ce (ds.drop (i + 1)) (wipeD ρ vs) acc : Wm (List D))
        | none => Wm.fail).bind (fun ys => (pure (.lst ys) : Wm D)) K Kx n2 := h2
      rw [q] at h2
      exact h2.elim
    | some ρ' =>
      have h2 : (match g ds[i] (wipeD ρ vs) with
        | some ρ' => (do if ← calm (ct ρ') then (do let y ← calm (ce ρ'); Wm.need (acc.length < sizeLine); lcD g ct ce (ds.drop (i + 1)) (wipeD ρ vs) (acc ++ [y])) else lcD g ct ce (ds.drop (i + 1)) (wipeD ρ vs) acc : Wm (List D))
        | none => Wm.fail).bind (fun ys => (pure (.lst ys) : Wm D)) K Kx n2 := h2
      rw [q] at h2
      have gs := g2.trans g3
      refine rg F3 H3 n2 (wipe σ vs) (wipeD ρ vs) ρ' x ds[i] _ (hs1.mono gs) hxv q fun σ' s' o => ⟨o.wipe hus, ?_⟩
      refine rt F3 H3 n2 σ' ρ' _ XFalse _ s' h2 (fun b F4 H4 n4 g4 hb => ?_) fun _ _ _ _ _ _ _ _ z => z.elim
      have g34 := g3.trans g4
      obtain ⟨nF4, hL4⟩ := keepL g34
      cases b with
      | false => exact iteF ⟨F4, n4, av, acc, g2.trans g34, nF4, hL4, hacc.mono g34, hb⟩
      | true =>
        refine iteT (re F4 H4 n4 σ' ρ' _ XFalse _ (s'.mono g4) hb (fun v d F5 H5 n5 g5 hv hd => ?_) fun _ _ _ _ _ _ _ _ z => z.elim)
        have g35 := g34.trans g5
        obtain ⟨nF5, hL5⟩ := keepL g35
        have ha5 := hacc.mono g35
        refine ⟨av, hL5, by rw [ha5.len]; exact hd.1, F5, n5, av ++ [v], acc ++ [d], ?_, nF5, upd_same, (ha5.snoc hv).out nF5, hd.2⟩
        have gg := g2.trans g35
        refine ⟨fun a o e => ?_, gg.sub, gg.new, gg.pb.put nF5 .lst, gg.le⟩
        · have ne : a ≠ L := ne_of_none e hL
          rw [upd_ne ne]
          exact gg.keep a o e
  · have e : i = ds.length := by omega
    subst e
    rw [List.drop_length] at h2
    refine .inl ⟨y.stop _ F2 H2 n2 g2.later (Nat.le_refl _), ?_⟩
    -- the list is frozen
    have gl : Grow F1 H1 n1 (plusF F2 L) H2 n2 := ⟨g2.keep, fun a f => .inl (g2.sub a f), fun a f => f.elim (g2.new a) fun e => .inr (e ▸ hL), g2.pb.sup (fun _ => .inl) (fun a f => f.elim (g2.pb.dom a) fun e => ⟨_, e ▸ hL2⟩), g2.le⟩
    have l2 : Later F2 H2 n2 (plusF F2 L) H2 n2 := ⟨fun a o _ h => .inl h, fun a f => .inl f, Nat.le_refl _⟩
    exact hq _ (.lst acc) _ H2 n2 (g1.trans gl) (.lst plusF_same hL2 (hacc.later l2)) h2
theorem DE.lc {elt tg iter : Expr} {ifs : List Expr} {scope : Scope} {own : List (Str × Nat)} {pos : Pos} {ti : TD (List D)} {g : TDG} {us : List Nat} {ct : TD Bool} {ce : TD D} (hc : ∀ i, (X i).calm = true) (hN : ∀ i, (X i).N.Nodup) (hi : DI X W tg iter ti)
    (ok : ∀ i, BlkOk (X i).N (X i).env.scope scope own) (hg : DG (blkX X scope) tg g us) (ht : DTs (blkX X scope) W0 ifs ct) (he : DE (blkX X scope) W0 elt ce) (hus : ∀ i ∈ us, i ∈ own.map (·.2) := by decide)
    (hs : ∀ i x, foldedSetIterable iter (X i).env x = pure x := by intro _ _; rfl) : DE X W (.ListComp elt [⟨tg, iter, ifs, 0⟩] scope pos) (dLc ti g ct ce (own.map (·.2))) := by
  obtain ⟨wi, pi, ri⟩ := hi
  obtain ⟨tgk, pg, rg⟩ := hg
  obtain ⟨tt, pt, rt⟩ := ht
  obtain ⟨te, pe, re⟩ := he
  exact ⟨_, fun i => pe_lc (hc i) (hN i) (pi i) (ok i) (fun s H C cl fp => pg (i, s, H, C, cl, fp)) (fun s H C cl fp => pt (i, s, H, C, cl, fp)) (fun s H C cl fp => pe (i, s, H, C, cl, fp)) (hs i), run_lc ri rg rt re hus⟩
theorem DS.setLc {k : Nat} {y : Str} {py : Pos} {elt tg iter : Expr} {ifs : List Expr} {scope : Scope} {own : List (Str × Nat)} {pos spos : Pos} {ti : TD (List D)} {g : TDG} {us : List Nat} {ct : TD Bool} {ce : TD D} (hc : ∀ i, (X i).calm = true) (hN : ∀ i, (X i).N.Nodup)
    (hy : ∀ i, (X i).N[k]? = some y) (hyl : ∀ i, (X i).env.scope.names.lookup y = some .local) (hsw : ∀ i, swapsWith (.ListComp elt [⟨tg, iter, ifs, 0⟩] scope pos) (some (.Name y py)) spos.line (X i).env = pure true) (hi : DI X W tg iter ti)
    (ok : ∀ i, BlkOk (X i).N (X i).env.scope scope own) (hg : DG (blkX X scope) tg g us) (ht : DTs (blkX X scope) W0 ifs ct) (he : DE (blkX X scope) W0 elt ce) (hus : ∀ i ∈ us, i ∈ own.map (·.2) := by decide)
    (hs : ∀ i x, foldedSetIterable iter (X i).env x = pure x := by intro _ _; rfl) : DS X W (.Assign [.Name y py] (.ListComp elt [⟨tg, iter, ifs, 0⟩] scope pos) spos) (dAsg (dLc ti g ct ce (own.map (·.2))) (dName k)) := by
  obtain ⟨wi, pi, ri⟩ := hi
  obtain ⟨tgk, pg, rg⟩ := hg
  obtain ⟨tt, pt, rt⟩ := ht
  obtain ⟨te, pe, re⟩ := he
  refine ⟨_, fun i => ps_setLc (i := k) (hc i) (hN i) (hy i) (hyl i) (hsw i) (pi i) (ok i) (fun s H C cl fp => pg (i, s, H, C, cl, fp)) (fun s H C cl fp => pt (i, s, H, C, cl, fp)) (fun s H C cl fp => pe (i, s, H, C, cl, fp)) (hs i), fun B F H n σ ρ E Z s h eo => ?_⟩
  exact (run_lc ri rg rt re hus).on s h eo fun v d F' H' n' s' g' hv hk eo' => eo'.nx _ _ F' H' n' (s'.set hv) .refl hk
end
end DL


set_option maxRecDepth 100000
set_option maxHeartbeats 2000000
/-! DL4: operators and built-ins by data. Own work. -/
namespace DL
open PySem PySem.Spec PyProof.Rows L2

/-! ### arithmetic -/
section
variable {X : Cx}
def fInt (C : Int → Int → Prop) (g : Int → Int → Int) : D → D → Wm D
  | .int i, .int j => do Wm.need (C i j); pure (.int (g i j))
  | _, _ => Wm.fail
theorem sem_int {C : Int → Int → Prop} {g : Int → Int → Int} : Sem2 (rI C fun i j => .int (g i j)) (fInt C g) := by
  intro F H n x y a b K Q pb hx hy ht hq
  cases hx <;> cases hy <;> first | exact ht.elim | skip
  rename_i i j
  exact ⟨i, j, rfl, rfl, ht.1, hq _ _ F H n (.refl pb) (.int _) ht.2⟩
def fCmpI (g : Int → Int → Bool) : D → D → Wm D
  | .int i, .int j => pure (.bl (g i j))
  | _, _ => Wm.fail
theorem sem_cmpI {g : Int → Int → Bool} : Sem2 (rI0 fun i j => .bl (g i j)) (fCmpI g) := by
  intro F H n x y a b K Q pb hx hy ht hq
  cases hx <;> cases hy <;> first | exact ht.elim | skip
  rename_i i j
  exact ⟨i, j, rfl, rfl, hq _ _ F H n (.refl pb) (.bl _) ht⟩
def CDivA (_ j : Int) : Prop := j ≠ 0 ∧ j.natAbs.log2 < 9000
theorem op_fdivA : OpR X (binaryOp .FloorDiv) (rI CDivA fun i j => .int (i.fdiv j)) := opI fun _ _ _ _ _ _ _ hc q => floordiv_int hc.1 q (.inl (PyProof.noPylong_of_log2 hc.2))
def CMod (_ j : Int) : Prop := j ≠ 0
theorem op_modA : OpR X (binaryOp .Mod) (rI CMod fun i j => .int (i.fmod j)) := op_modN
/-- + -/
def fAdd : D → D → Wm D
  | .int i, .int j => pure (.int (i + j))
  | .str x, .str y => do Wm.need (Fits (x.length + y.length)); pure (.str (x ++ y))
  | .tup xs, .tup ys => do Wm.need (Fits (xs.length + ys.length)); pure (.tup (xs ++ ys))
  | .lst xs, .lst ys => do Wm.need (Fits (xs.length + ys.length)); pure (.lst (xs ++ ys))
  | _, _ => Wm.fail
def rAddA (K : PySem.W.Frag) : R2 := fun x y H Q => rI0 (fun i j => .int (i + j)) x y H Q ∨ (∃ i j, x = V.str i ∧ y = V.str j ∧ i.length + j.length ≤ sizeLine ∧ Q (.str (i ++ j)) H) ∨ rCatA K x y H Q ∨ rCat x y H Q
theorem op_addA : OpR X (binaryOp .Add) (rAddA X.K) := op_add.or (op_add_str.or (op_catA.or op_cat))
theorem HasL.app {F : Addr → Prop} {H : Hp} : ∀ {vs ws : List V} {ds es : List D}, HasL F H vs ds → HasL F H ws es → HasL F H (vs ++ ws) (ds ++ es)
  | _, _, _, _, .nil, g => g
  | _, _, _, _, .cons h l, g => .cons h (HasL.app l g)
theorem HasL.nil_iff {F : Addr → Prop} {H : Hp} {vs : List V} {ds : List D} (h : HasL F H vs ds) : vs = [] ↔ ds = [] := by
  cases h <;> simp
theorem sem_add {K : PySem.W.Frag} : Sem2 (rAddA K) fAdd := by
  intro F H n x y a b Kd Q pb hx hy ht hq
  cases hx <;> cases hy <;> first | exact ht.elim | skip
  case int.int i j => exact .inl ⟨i, j, rfl, rfl, hq _ _ F H n (.refl pb) (.int _) ht⟩
  case str.str i j => exact .inr (.inl ⟨i, j, rfl, rfl, ht.1, hq _ _ F H n (.refl pb) (.str _) ht.2⟩)
  case tup.tup a xs ds fa ha la b ys es fb hb lb =>
    refine .inr (.inr (.inl ⟨a, b, xs, ys, rfl, rfl, .of ha, .of hb, by rw [la.len, lb.len]; exact ht.1, fun e => ?_, fun _ e => ?_, fun _ _ p hp => ?_⟩))
    · subst e
      cases la
      exact hq _ _ F H n (.refl pb) (.tup fb hb lb) ht.2
    · subst e
      cases lb
      have ht2 : Kd (.tup (ds ++ [])) n := ht.2
      rw [List.append_nil] at ht2
      exact hq _ _ F H n (.refl pb) (.tup fa ha la) ht2
    · have g : Grow F H n (plusF F p) (upd H p (.tup (xs ++ ys))) n := .laid pb hp .tup
      exact hq _ _ _ _ n g (.tup plusF_same upd_same ((la.app lb).mono g)) ht.2
  case lst.lst a xs ds fa ha la b ys es fb hb lb =>
    refine .inr (.inr (.inr ⟨a, b, xs, ys, rfl, rfl, ha, hb, by rw [la.len, lb.len]; exact ht.1, fun p hp => ?_⟩))
    have g : Grow F H n (plusF F p) (upd H p (.lst (xs ++ ys))) n := .laid pb hp .lst
    exact hq _ _ _ _ n g (.lst plusF_same upd_same ((la.app lb).mono g)) ht.2
def fNeg : D → Wm D
  | .int i => pure (.int (-i))
  | _ => Wm.fail
theorem sem_neg : Sem1 (rU fun i => .int (-i)) fNeg := by
  intro F H n x a K Q pb hx ht hq
  cases hx <;> first | exact ht.elim | skip
  exact ⟨_, rfl, hq _ _ F H n (.refl pb) (.int _) ht⟩
/-- is of two bools, of None -/
def fIs : D → D → Wm D
  | .bl a, .bl b => pure (.bl (decide (a = b)))
  | _, _ => Wm.fail
theorem sem_isB : Sem2 rIsB fIs := by
  intro F H n x y a b K Q pb hx hy ht hq
  cases hx <;> cases hy <;> first | exact ht.elim | skip
  rename_i i j
  exact ⟨i, j, rfl, rfl, hq _ _ F H n (.refl pb) (.bl _) ht⟩
end

/-! ### data as the library's -/
mutual
def pyD : D → PyData
  | .non => .none
  | .bl b => .bool b
  | .int i => .int i
  | .str x => .str x
  | .tup ds => .tuple (pyL ds)
  | .lst ds => .list (pyL ds)
  | .dic ks ds => .dict ((ks.map fun k => match k with | .inl i => PyData.int i | .inr x => PyData.str x).zip (pyL ds))
  | _ => .none
def pyL : List D → List PyData
  | [] => []
  | d :: ds => pyD d :: pyL ds
end
mutual
/-- without dicts, objects -/
def flatD : D → Bool
  | .non | .bl _ | .int _ | .str _ => true
  | .tup ds | .lst ds => flatL ds
  | _ => false
def flatL : List D → Bool
  | [] => true
  | d :: ds => flatD d && flatL ds
end
mutual
theorem Has.dp {K : PySem.W.Frag} {F : Addr → Prop} {H : Hp} : ∀ {v : V} {d : D}, Has F H v d → flatD d = true → Dp K H v (pyD d)
  | _, _, .non, _ => by unfold pyD; exact .non
  | _, _, .bl b, _ => by unfold pyD; exact .bl b
  | _, _, .int i, _ => by unfold pyD; exact .int i
  | _, _, .str x, _ => by unfold pyD; exact .str x
  | _, _, .tup f h l, e => by unfold pyD; unfold flatD at e; exact .tup (.of h) (HasL.dp l e)
  | _, _, .lst f h l, e => by unfold pyD; unfold flatD at e; exact .lst (.of h) (HasL.dp l e)
  | _, _, .dic _ _ _ _ _, e => by unfold flatD at e; cases e
  | _, _, .obj _ _ _ _, e => by unfold flatD at e; cases e
  | _, _, .pen _ _ _ _ _ _, e => by unfold flatD at e; cases e
  | _, _, .clo0 _ _ _ _, e => by unfold flatD at e; cases e
  | _, _, .fnA _, e => by unfold flatD at e; cases e
  | _, _, .scr _ _, e => by unfold flatD at e; cases e
  | _, _, .clo1 _ _ _ _ _ _ _, e => by unfold flatD at e; cases e
theorem HasL.dp {K : PySem.W.Frag} {F : Addr → Prop} {H : Hp} : ∀ {vs : List V} {ds : List D}, HasL F H vs ds → flatL ds = true → DpAll K H vs (pyL ds)
  | _, _, .nil, _ => by unfold pyL; exact .nil
  | _, _, .cons h l, e => by
    unfold flatL at e
    obtain ⟨e1, e2⟩ := Bool.and_eq_true_iff.mp e
    unfold pyL
    exact .cons (Has.dp h e1) (HasL.dp l e2)
end
/-- may be compared by == -/
def EqOk (d : D) : Prop := flatD d = true ∧ SeqAt.shaped (pyD d) = true
def eqD (d e : D) : Bool := PyData.eqv (pyD d) (pyD e)
def fEq : D → D → Wm D := fun d e => do Wm.need (EqOk d ∧ EqOk e); pure (.bl (eqD d e))
def fNe : D → D → Wm D := fun d e => do Wm.need (EqOk d ∧ EqOk e); pure (.bl (!eqD d e))
theorem sem_eq {K : PySem.W.Frag} : Sem2 (rEqD K) fEq := by
  intro F H n x y a b Kd Q pb hx hy ht hq
  obtain ⟨⟨⟨f1, s1⟩, f2, s2⟩, hk⟩ := ht
  exact ⟨_, _, hx.dp f1, hy.dp f2, s1, s2, hq _ _ F H n (.refl pb) (.bl _) hk⟩
theorem sem_ne {K : PySem.W.Frag} : Sem2 (rNeD K) fNe := by
  intro F H n x y a b Kd Q pb hx hy ht hq
  obtain ⟨⟨⟨f1, s1⟩, f2, s2⟩, hk⟩ := ht
  exact ⟨_, _, hx.dp f1, hy.dp f2, s1, s2, hq _ _ F H n (.refl pb) (.bl _) hk⟩

/-! ### repr -/
mutual
/-- without lists, objects; dicts are empty -/
def tupD : D → Bool
  | .non => true
  | .bl _ => true
  | .int _ => true
  | .str _ => true
  | .tup ds => tupL ds
  | .dic ks _ => ks.isEmpty
  | .lst _ => false
  | .obj _ _ _ => false
  | .exc _ _ _ => false
  | .pen => false
  | .clo _ _ _ => false
  | .fnA _ => false
  | .scr _ _ _ => false
def tupL : List D → Bool
  | [] => true
  | d :: ds => tupD d && tupL ds
end
structure Shows (d : D) : Prop where
  flat : (flatD d || tupD d) = true
  show_ : (pyD d).showable = true
  dep : (pyD d).depth ≤ 40
  len : (pyD d).shown.length ≤ sizeLine
def shw (d : D) : Str := (pyD d).shown
mutual
theorem pyD_noDict : ∀ d, flatD d = true → (pyD d).hasDict = false
  | .non, _ => by unfold pyD; simp only [PyData.hasDict]
  | .bl _, _ => by unfold pyD; simp only [PyData.hasDict]
  | .int _, _ => by unfold pyD; simp only [PyData.hasDict]
  | .str _, _ => by unfold pyD; simp only [PyData.hasDict]
  | .tup ds, e => by unfold flatD at e; unfold pyD; simp only [PyData.hasDict]; exact pyL_noDict ds e
  | .lst ds, e => by unfold flatD at e; unfold pyD; simp only [PyData.hasDict]; exact pyL_noDict ds e
  | .dic _ _, e => by unfold flatD at e; cases e
  | .obj _ _ _, e => by unfold flatD at e; cases e
  | .exc _ _ _, e => by unfold flatD at e; cases e
  | .clo _ _ _, e => by unfold flatD at e; cases e
  | .fnA _, e => by unfold flatD at e; cases e
  | .scr _ _ _, e => by unfold flatD at e; cases e
  | .pen, e => by unfold flatD at e; cases e
theorem pyL_noDict : ∀ ds, flatL ds = true → PyData.hasDictAll (pyL ds) = false
  | [], _ => by unfold pyL; simp only [PyData.hasDictAll]
  | d :: ds, e => by
    unfold flatL at e
    obtain ⟨e1, e2⟩ := Bool.and_eq_true_iff.mp e
    unfold pyL
    simp only [PyData.hasDictAll, pyD_noDict d e1, pyL_noDict ds e2, Bool.or_self]
end
mutual
theorem Has.readsT {P : Program} {w : World} {h : Heap} {F : Addr → Prop} {H : Hp} (ok : HOk P w H h) : ∀ {v : V} {d : D} {u : Value}, Has F H v d → RelV v u → tupD d = true → ∃ as, Reads h u (pyD d) as ∧ sysModules ∉ as
  | _, _, _, .non, r, _ => by cases r; unfold pyD; exact ⟨[], .none, by simp⟩
  | _, _, _, .bl b, r, _ => by cases r; unfold pyD; exact ⟨[], .bool b, by simp⟩
  | _, _, _, .int i, r, _ => by obtain ⟨t, rfl⟩ := r; unfold pyD; exact ⟨[], .int i t, by simp⟩
  | _, _, _, .str x, r, _ => by obtain ⟨t, rfl⟩ := r; unfold pyD; exact ⟨[], .str x t, by simp⟩
  | _, _, _, .tup (a := a) f hh l, r, e => by
    cases r
    unfold tupD at e
    obtain ⟨_, its, rv, o, ho, hc, n, hd⟩ := (show ObjOk P w H h a (.tup _) from ok a _ hh)
    obtain ⟨as, hr, hn⟩ := HasL.readsT ok l rv e
    unfold pyD
    exact ⟨as, .tuple ho hc hd (by simpa using hr), hn⟩
  | _, _, _, .lst _ _ _, _, e => by unfold tupD at e; cases e
  | _, _, _, .dic (a := a) (kvs := kvs) (ks := ks) (ds := ds) f hh q k l, r, e => by
    cases r
    unfold tupD at e
    have hks : ks = [] := List.isEmpty_iff.mp e
    subst hks
    have hkv : kvs = [] := List.map_eq_nil_iff.mp k
    subst hkv
    cases l
    obtain ⟨_, hs, vs, rel, o, es, ep, ho, hx, hd, _, hp, _⟩ := (show ObjOk P w H h a (.dK []) from ok a _ hh)
    cases rel
    have hes : es.toList = [] := by cases hp' : es.toList with | nil => rfl | cons _ _ => rw [hp'] at hp; cases hp
    unfold pyD
    exact ⟨[a], .dict (as := []) (bs := []) ho hx.1 hd (by rw [hes]; exact .nil) (by rw [hes]; exact .nil), by
      intro z
      have z : sysModules = a := by simpa using z
      rw [← z] at hs
      simp at hs⟩
  | _, _, _, .obj _ _ _ _, _, e => by unfold tupD at e; cases e
  | _, _, _, .pen _ _ _ _ _ _, _, e => by unfold tupD at e; cases e
  | _, _, _, .clo0 _ _ _ _, _, e => by unfold tupD at e; cases e
  | _, _, _, .clo1 _ _ _ _ _ _ _, _, e => by unfold tupD at e; cases e
  | _, _, _, .fnA _, _, e => by unfold tupD at e; cases e
  | _, _, _, .scr _ _, _, e => by unfold tupD at e; cases e
theorem HasL.readsT {P : Program} {w : World} {h : Heap} {F : Addr → Prop} {H : Hp} (ok : HOk P w H h) : ∀ {vs : List V} {ds : List D} {us : List Value}, HasL F H vs ds → Vals vs us → tupL ds = true → ∃ as, ReadsAll h us (pyL ds) as ∧ sysModules ∉ as
  | _, _, _, .nil, r, _ => by cases r; unfold pyL; exact ⟨[], .nil, by simp⟩
  | _, _, _, .cons hh l, r, e => by
    unfold tupL at e
    obtain ⟨e1, e2⟩ := Bool.and_eq_true_iff.mp e
    cases r with
    | cons r1 r2 =>
      obtain ⟨as, q1, n1⟩ := Has.readsT ok hh r1 e1
      obtain ⟨bs, q2, n2⟩ := HasL.readsT ok l r2 e2
      unfold pyL
      exact ⟨as ++ bs, .cons q1 q2, fun z => (List.mem_append.mp z).elim n1 n2⟩
end
section
variable {X : Cx}
theorem reads_imm {prog : Program} {w : World} {A : Around} {E : Value → Shared → Prop} {s : Shared} {Q : Value → Shared → Prop} {u : Value} {d : PyData} {as : List Addr} (r : Reads s.heap u d as) (hs : d.showable = true) (hn : d.hasDict = true → sysModules ∉ as) (hg : A.guards = some []) (hu : A.units + (d.depth + 1) < cLine)
    (hsz : d.shown.length ≤ sizeLine) (hQ : ∀ h' t tk, (∀ b o, s.heap.get? b = some o → h'.get? b = some o) → Q (.str d.shown t) { s with heap := h', toks := tk }) : wpAny (model prog w) A (call (.builtin "repr") [u]) Q E s := by
  cases r with
  | none => exact PySem.P.repr_of_none (hQ s.heap _ _ fun _ _ e => e)
  | bool b => exact PySem.P.repr_of_bool (hQ s.heap _ _ fun _ _ e => e)
  | int i t => exact PySem.P.repr_of_int (of_decide_eq_true hs) (hQ s.heap _ _ fun _ _ e => e)
  | str x t => exact PySem.P.repr_of_str (hQ s.heap _ _ fun _ _ e => e) hsz
  | list h1 h2 h3 h4 => exact repr_of_reads' (.list h1 h2 h3 h4) hs hn hg hu (fun _ _ e => e) hQ hsz
  | tuple h1 h2 h3 h4 => exact repr_of_reads' (.tuple h1 h2 h3 h4) hs hn hg hu (fun _ _ e => e) hQ hsz
  | dict h1 h2 h3 h4 h5 => exact repr_of_reads' (.dict h1 h2 h3 h4 h5) hs hn hg hu (fun _ _ e => e) hQ hsz

def rRepr : List V → Hp → VK → Prop := fun vs H Q => ∃ (x : V) (d : D) (F : Addr → Prop), vs = [x] ∧ Has F H x d ∧ Shows d ∧ Q (.str (shw d)) H
theorem call_reprD (hg : X.A.guards = some []) (hu : X.A.units + 64 < cLine) : CallR X (.builtin "repr") rRepr := by
  intro pins s σ H xs us Q I r h
  obtain ⟨x, d, F, rfl, hd, sh, q⟩ := h
  obtain ⟨u, rfl, ru⟩ := vals1 r
  have dep := sh.dep
  rcases Bool.or_eq_true_iff.mp sh.flat with hf | ht
  · obtain ⟨as, rd⟩ := Dp.reads I _ x u (hd.dp hf) ru
    exact reads_imm rd sh.show_ (fun e => by rw [pyD_noDict d hf] at e; cases e) hg (by omega) sh.len fun h' t tk k => ⟨.str _, H, I.kept k, ⟨_, rfl⟩, q⟩
  · obtain ⟨as, rd, hn⟩ := hd.readsT I.hok ru ht
    exact reads_imm rd sh.show_ (fun _ => hn) hg (by omega) sh.len fun h' t tk k => ⟨.str _, H, I.kept k, ⟨_, rfl⟩, q⟩
def fRepr : List D → Wm D
  | [d] => do Wm.need (Shows d); pure (.str (shw d))
  | _ => Wm.fail
theorem sem_repr : SemL rRepr fRepr := by
  intro F H n xs as Kd Q pb hx ht hq
  cases hx with
  | nil => exact ht.elim
  | cons h1 h2 =>
    cases h2 with
    | nil => exact ⟨_, _, F, rfl, h1, ht.1, hq _ _ F H n (.refl pb) (.str _) ht.2⟩
    | cons _ _ => exact ht.elim
/-! ### len, list, tuple, all, abs, gcd, int -/
def fLen : List D → Wm D
  | [.lst ds] => pure (.int ds.length)
  | [.tup ds] => pure (.int ds.length)
  | [.str x] => do Wm.need (Fits x.length); pure (.int x.length)
  | _ => Wm.fail
def rLen (K : PySem.W.Frag) : List V → Hp → VK → Prop := fun xs H Q => (∃ p ys, xs = [.ref p] ∧ (SqL K H p ys ∨ SqT K H p ys) ∧ Q (.int ys.length) H) ∨ ∃ z : Str, xs = [.str z] ∧ z.length ≤ sizeLine ∧ Q (.int z.length) H
theorem call_lenA : CallR X (.builtin "len") (rLen X.K) := call_len_seq.or call_len_str
theorem sem_len {K : PySem.W.Frag} : SemL (rLen K) fLen := by
  intro F H n xs as Kd Q pb hx ht hq
  cases hx with
  | nil => exact ht.elim
  | cons h1 h2 =>
    cases h2 with
    | nil =>
      cases h1 <;> first | exact ht.elim | skip
      case str x => exact .inr ⟨x, rfl, ht.1, hq _ _ F H n (.refl pb) (.int _) ht.2⟩
      case tup a vs ds f ha hl => exact .inl ⟨a, vs, rfl, .inr (.of ha), hq _ (.int ds.length) F H n (.refl pb) (by rw [hl.len]; exact .int _) ht⟩
      case lst a vs ds f ha hl => exact .inl ⟨a, vs, rfl, .inl (.of ha), hq _ (.int ds.length) F H n (.refl pb) (by rw [hl.len]; exact .int _) ht⟩
    | cons _ _ => cases h1 <;> exact ht.elim
def fList : List D → Wm D
  | [.lst ds] => pure (.lst ds)
  | [.tup ds] => pure (.lst ds)
  | _ => Wm.fail
theorem sem_list {K : PySem.W.Frag} : SemL (fun xs H Q => ∃ p ys, xs = [.ref p] ∧ (SqL K H p ys ∨ SqT K H p ys) ∧ ∀ l, H l = none → Q (.ref l) (upd H l (.lst ys))) fList := by
  intro F H n xs as Kd Q pb hx ht hq
  have key : ∀ {a : Addr} {vs : List V} {ds : List D}, HasL F H vs ds → Kd (.lst ds) n → ∀ l, H l = none → Q (.ref l) (upd H l (.lst vs)) := fun {a vs ds} hl hk l hp => by
    have g : Grow F H n (plusF F l) (upd H l (.lst vs)) n := .laid pb hp .lst
    exact hq _ _ _ _ n g (.lst plusF_same upd_same (hl.mono g)) hk
  cases hx with
  | nil => exact ht.elim
  | cons h1 h2 =>
    cases h2 with
    | nil =>
      cases h1 <;> first | exact ht.elim | skip
      case tup a vs ds f ha hl => exact ⟨a, vs, rfl, .inr (.of ha), key (a := a) hl ht⟩
      case lst a vs ds f ha hl => exact ⟨a, vs, rfl, .inl (.of ha), key (a := a) hl ht⟩
    | cons _ _ => cases h1 <;> exact ht.elim
def fTuple : List D → Wm D
  | [.lst ds] => pure (.tup ds)
  | [.tup ds] => pure (.tup ds)
  | _ => Wm.fail
theorem sem_tuple {K : PySem.W.Frag} : SemL (fun xs H Q => ∃ p ys, xs = [.ref p] ∧ ((SqL K H p ys ∧ ∀ l, H l = none → Q (.ref l) (upd H l (.tup ys))) ∨ (SqT K H p ys ∧ Q (.ref p) H))) fTuple := by
  intro F H n xs as Kd Q pb hx ht hq
  cases hx with
  | nil => exact ht.elim
  | cons h1 h2 =>
    cases h2 with
    | nil =>
      cases h1 <;> first | exact ht.elim | skip
      case tup a vs ds f ha hl => exact ⟨a, vs, rfl, .inr ⟨.of ha, hq _ _ F H n (.refl pb) (.tup f ha hl) ht⟩⟩
      case lst a vs ds f ha hl =>
        refine ⟨a, vs, rfl, .inl ⟨.of ha, fun l hp => ?_⟩⟩
        have g : Grow F H n (plusF F l) (upd H l (.tup vs)) n := .laid pb hp .tup
        exact hq _ _ _ _ n g (.tup plusF_same upd_same (hl.mono g)) ht
    | cons _ _ => cases h1 <;> exact ht.elim
/-- all of a list of bools -/
def boolOf : D → Option Bool
  | .bl b => some b
  | _ => none
def boolsOf : List D → Option (List Bool)
  | [] => some []
  | d :: ds => (boolOf d).bind fun b => (boolsOf ds).map (b :: ·)
theorem Has.boolOf {F : Addr → Prop} {H : Hp} {v : V} {d : D} {b : Bool} (h : Has F H v d) (e : boolOf d = some b) : v = .bl b := by
  cases h <;> first | (cases e; rfl) | cases e
theorem HasL.bools {F : Addr → Prop} {H : Hp} {vs : List V} {ds : List D} {bs : List Bool} (h : HasL F H vs ds) (e : boolsOf ds = some bs) : vs = bs.map V.bl := by
  induction ds generalizing vs bs with
  | nil =>
    cases h
    cases e
    rfl
  | cons d ds ih =>
    cases h with
    | cons h l =>
      obtain ⟨b, e1, e2⟩ := Option.bind_eq_some_iff.mp e
      obtain ⟨cs, e3, e4⟩ := Option.map_eq_some_iff.mp e2
      subst e4
      rw [h.boolOf e1, ih l e3]
      rfl
def fAll (g : List Bool → Bool) : List D → Wm D
  | [.lst ds] => match boolsOf ds with
    | some bs => pure (.bl (g bs))
    | none => Wm.fail
  | _ => Wm.fail
theorem sem_allG {K : PySem.W.Frag} {g : List Bool → Bool} : SemL (fun vs H Q => ∃ (a : Addr) (bs : List Bool), vs = [V.ref a] ∧ SqL K H a (bs.map V.bl) ∧ Q (.bl (g bs)) H) (fAll g) := by
  intro F H n xs as Kd Q pb hx ht hq
  cases hx with
  | nil => exact ht.elim
  | cons h1 h2 =>
    cases h2 with
    | nil =>
      cases h1 <;> first | exact ht.elim | skip
      case lst a vs ds f ha hl =>
        have ht : (match boolsOf ds with
          | some bs => (pure (.bl (g bs)) : Wm D)
          | none => Wm.fail) Kd XFalse n := ht
        cases e : boolsOf ds with
        | none => rw [e] at ht; exact ht.elim
        | some bs =>
          rw [e] at ht
          have ev := hl.bools e
          subst ev
          exact ⟨a, bs, rfl, .of ha, hq _ _ F H n (.refl pb) (.bl _) ht⟩
    | cons _ _ => cases h1 <;> exact ht.elim
theorem sem_all {K : PySem.W.Frag} : SemL (rAll K) (fAll fun bs => bs.all id) := sem_allG
theorem sem_any {K : PySem.W.Frag} : SemL (rAny K) (fAll fun bs => bs.any id) := sem_allG
def fAbs : List D → Wm D
  | [.int i] => pure (.int (if i < 0 then -i else i))
  | _ => Wm.fail
theorem sem_abs : SemL (fun xs H Q => ∃ i, xs = [V.int i] ∧ Q (.int (if i < 0 then -i else i)) H) fAbs := by
  intro F H n xs as Kd Q pb hx ht hq
  cases hx with
  | nil => exact ht.elim
  | cons h1 h2 =>
    cases h2 with
    | nil =>
      cases h1 <;> first | exact ht.elim | skip
      exact ⟨_, rfl, hq _ _ F H n (.refl pb) (.int _) ht⟩
    | cons _ _ => cases h1 <;> exact ht.elim
def fIntC : List D → Wm D
  | [.int i] => pure (.int i)
  | _ => Wm.fail
theorem sem_intC : SemL (fun xs H Q => (∃ i, xs = [V.int i] ∧ Q (.int i) H) ∨ ∃ k, xs = [V.bl k] ∧ Q (.int (if k then 1 else 0)) H) fIntC := by
  intro F H n xs as Kd Q pb hx ht hq
  cases hx with
  | nil => exact ht.elim
  | cons h1 h2 =>
    cases h2 with
    | nil =>
      cases h1 <;> first | exact ht.elim | skip
      exact .inl ⟨_, rfl, hq _ _ F H n (.refl pb) (.int _) ht⟩
    | cons _ _ => cases h1 <;> exact ht.elim
def fGcd : List D → Wm D
  | [.int i, .int j] => pure (.int (Nat.gcd i.natAbs j.natAbs : Nat))
  | _ => Wm.fail
theorem sem_gcd : SemL rGcd fGcd := by
  intro F H n xs as Kd Q pb hx ht hq
  cases hx with
  | nil => exact ht.elim
  | cons h1 h2 =>
    cases h2 with
    | nil => cases h1 <;> exact ht.elim
    | cons h2 h3 =>
      cases h3 with
      | nil =>
        cases h1 <;> cases h2 <;> first | exact ht.elim | skip
        exact ⟨_, _, rfl, hq _ _ F H n (.refl pb) (.int _) ht⟩
      | cons _ _ => cases h1 <;> cases h2 <;> exact ht.elim
/-! ### subscripts -/
def fIx : D → D → Wm D
  | .lst ds, .int i => match atI ds i with
    | some d => pure d
    | none => Wm.fail
  | .tup ds, .int i => match atI ds i with
    | some d => pure d
    | none => Wm.fail
  | .str z, .int i => match atI z.cps.toList i with
    | some c => do Wm.need (Fits z.length); pure (.str ⟨#[c]⟩)
    | none => Wm.fail
  | _, _ => Wm.fail
theorem HasL.atI {F : Addr → Prop} {H : Hp} {vs : List V} {ds : List D} {i : Int} {d : D} (h : HasL F H vs ds) (e : L2.atI ds i = some d) : ∃ v, L2.atI vs i = some v ∧ Has F H v d := by
  unfold L2.atI at e ⊢
  rw [h.len]
  cases q : ixN ds.length i with
  | none => rw [q] at e; cases e
  | some j =>
    rw [q] at e
    have e : ds[j]? = some d := e
    exact h.get e
theorem sem_ix {K : PySem.W.Frag} : Sem2 (rIx K) fIx := by
  intro F H n x y a b Kd Q pb hx hy ht hq
  cases hx <;> cases hy <;> first | exact ht.elim | skip
  case str.int z i =>
    have ht : (match L2.atI z.cps.toList i with
      | some c => (do Wm.need (Fits z.length); pure (.str ⟨#[c]⟩) : Wm D)
      | none => Wm.fail) Kd XFalse n := ht
    cases e : L2.atI z.cps.toList i with
    | none => rw [e] at ht; exact ht.elim
    | some c => rw [e] at ht; exact .inr (.inr ⟨z, i, c, rfl, rfl, ht.1, e, hq _ _ F H n (.refl pb) (.str _) ht.2⟩)
  case tup.int a vs ds f ha hl i =>
    have ht : (match L2.atI ds i with
      | some d => (pure d : Wm D)
      | none => Wm.fail) Kd XFalse n := ht
    cases e : L2.atI ds i with
    | none => rw [e] at ht; exact ht.elim
    | some d =>
      rw [e] at ht
      obtain ⟨v, e1, hv⟩ := hl.atI e
      exact .inr (.inl ⟨a, vs, i, v, rfl, rfl, .of ha, e1, hq v d F H n (.refl pb) hv ht⟩)
  case lst.int a vs ds f ha hl i =>
    have ht : (match L2.atI ds i with
      | some d => (pure d : Wm D)
      | none => Wm.fail) Kd XFalse n := ht
    cases e : L2.atI ds i with
    | none => rw [e] at ht; exact ht.elim
    | some d =>
      rw [e] at ht
      obtain ⟨v, e1, hv⟩ := hl.atI e
      exact .inl ⟨a, vs, i, v, rfl, rfl, .of ha, e1, hq v d F H n (.refl pb) hv ht⟩
/-! ### isinstance, built-in classes -/
def tyD : D → Value
  | .non => .type "NoneType"
  | .bl _ => .type "bool"
  | .int _ => .type "int"
  | .str _ => .type "str"
  | .tup _ => .type "tuple"
  | .lst _ => .type "list"
  | .dic _ _ => .type "dict"
  | .pen => .type "dict"
  | .obj C _ _ => .ref C
  | .exc C _ _ => .ref C
  | .clo _ _ _ => .type "function"
  | .fnA _ => .type "function"
  | .scr _ _ _ => .type "list"
/-- what the class of an object must be, that isinstance may ask -/
structure IsiOk (K : PySem.W.Frag) (C : Addr) : Prop where
  cl : Cls K C
  ha : PySem.W.findIn K (.ref C) "__class__" = some (some (.builtin "object.__class__"))
  hn : PySem.W.specialIn K (.builtin "object.__class__") "__get__" = some (some (.builtin "getset_descriptor.__get__"))
  ht : PySem.W.takesIn K (.builtin "object.__class__") = some true
  hm : PySem.W.mroIn K C (.type "object") = some true
def tyOk (K : PySem.W.Frag) : D → Prop
  | .obj C _ _ => IsiOk K C
  | .exc _ _ _ => False
  | .clo _ _ _ => False
  | .fnA _ => False
  | .scr _ _ _ => False
  | _ => True
theorem Has.tyX {K : PySem.W.Frag} {F : Addr → Prop} {H : Hp} {v : V} {d : D} (h : Has F H v d) (ok : tyOk K d) : TyX K H v (tyD d) := by
  cases h with
  | non => exact .base .non
  | bl b => exact .base (.bl b)
  | int i => exact .base (.int i)
  | str x => exact .base (.str x)
  | tup f ha _ => exact .base (.tup ha)
  | lst f ha _ => exact .base (.lst ha)
  | dic f ha _ _ _ => exact .base (.dK ha)
  | obj f ha _ _ => exact .base (.ins ha ok.cl ok.ha ok.hn ok.ht ok.hm)
  | pen f ha _ _ _ _ => exact .base (.dK ha)
  | fnA _ => exact ok.elim
  | clo0 _ _ _ _ => exact ok.elim
  | scr _ _ => exact ok.elim
  | clo1 _ _ _ _ _ _ _ => exact ok.elim
def fIsi (K : PySem.W.Frag) (us : List Value) (d : D) : Wm D := do
  Wm.need (tyOk K d)
  match PySem.W.kitAny K (tyD d) us with
  | some b => pure (.bl b)
  | none => Wm.fail
def fIsi1 (K : PySem.W.Frag) (u : Value) (d : D) : Wm D := do
  Wm.need (tyOk K d)
  match PySem.W.kitOne K (tyD d) u with
  | some b => pure (.bl b)
  | none => Wm.fail
end
section
variable {ι : Type} {X : ι → Cx} {W : WX}
theorem DE.isi1 {a T : Expr} {c : V} {u : Value} {t : TD D} {p pos : Pos} {K : PySem.W.Frag} (hK : ∀ i, (X i).K = K) (hT : ∀ i, PE (X i) T (tC c)) (hc : ClsV c u) (hg : ∀ i, Gl (X i) "isinstance") (hm : ∀ i, (X i).mg "isinstance" = none) (h : DE X W a t)
    (h1 : ∀ i, starEach [a, T] (X i).env = (false, eval a (X i).env) :: starEach [T] (X i).env := by intro _; rfl) (h2 : ∀ i, starEach [T] (X i).env = (false, eval T (X i).env) :: starEach [] (X i).env := by intro _; rfl)
    (hpl : ∀ i, (backTo pos (starEach [T] (X i).env)).any (·.1) = false := by intro _; rfl) : DE X W (.Call (.Name "isinstance" p) [a, T] [] pos) (fun ρ => do fIsi1 K u (← t ρ)) := by
  obtain ⟨te, pe, r⟩ := h
  refine ⟨tCB (rIsi K) (tCons te (tCons (tC c) tNil)), fun i => by rw [← hK i]; exact pe_callB call_isi (hg i) (hm i) (by decide +kernel) (pa_cons (pe i) (pa_cons (hT i) pa_nil (h2 i)) (h1 i)) (by decide) (by decide) (h1 i) (hpl i), fun F H n σ ρ Kd Kx Q hs ht hq hx => ?_⟩
  refine r F H n σ ρ _ Kx _ hs ht (fun v d F1 H1 n1 g1 hv ht1 => ?_) hx
  obtain ⟨ok, hk⟩ := ht1
  cases e : PySem.W.kitOne K (tyD d) u with
  | none => rw [e] at hk; exact hk.elim
  | some b =>
    rw [e] at hk
    exact ⟨v, c, tyD d, u, b, rfl, hc, hv.tyX ok, e, hq _ _ F1 H1 n1 g1 (.bl b) hk⟩
end
end DL


set_option maxRecDepth 100000
set_option maxHeartbeats 2000000
/-! DL5: the pen; further operators. Own work. -/
namespace DL
open PySem PySem.Spec PyProof.Rows L2

/-! ### the pen's dict -/
section
variable {c : Addr} {p : Pen}
theorem pg_count : valV (penK c p) (.inr "count") = some (.int p.ct) := rfl
theorem pg_digits : valV (penK c p) (.inr "digits") = some (.int p.dg) := rfl
theorem pg_at : valV (penK c p) (.inr "at") = some (.int p.at_) := rfl
theorem pg_cells : valV (penK c p) (.inr "cells") = some (.ref c) := rfl
theorem pg_fold : valV (penK c p) (.inr "fold") = some (.int p.fd) := rfl
theorem pp_count {i : Int} : putK (penK c p) (.inr "count") (.int i) = penK c { p with ct := i } := rfl
theorem pp_digits {i : Int} : putK (penK c p) (.inr "digits") (.int i) = penK c { p with dg := i } := rfl
theorem pp_at {i : Int} : putK (penK c p) (.inr "at") (.int i) = penK c { p with at_ := i } := rfl
theorem pp_fold {i : Int} : putK (penK c p) (.inr "fold") (.int i) = penK c { p with fd := i } := rfl
end
theorem penLen (c : Addr) (p : Pen) : (penK c p).length < sizeLine := by
  rw [sizeLine_eq]
  show 5 < 16777216
  decide
abbrev tGet (k : Str) : TE := tDGet (tVar 0) (tC (.str k))
abbrev tPut (k : Str) (v : TE) : TS := sDPut (tVar 0) (tC (.str k)) v
theorem run_get {σ : L2.St} {H : Hp} {Q : VK} {a : Addr} {kvs : List (Key × V)} {k : Str} {v : V} (h0 : σ[0]? = some (some (.ref a))) (h : H a = some (.dK kvs)) (hv : valV kvs (.inr k) = some v) (q : Q v H) : tGet k σ H Q :=
  ⟨.ref a, h0, a, v, rfl, by rw [← hv]; exact DGet.k (k := .inr k) h, q⟩

abbrev tAddI (a b : TE) : TE := tOp (rI0 fun i j => .int (i + j)) a b
abbrev tSubI (a b : TE) : TE := tOp (rI0 fun i j => .int (i - j)) a b
abbrev tMulI (a b : TE) : TE := tOp (rI CMulW fun i j => .int (i * j)) a b
abbrev tModI (a b : TE) : TE := tOp (rI (fun _ j => j ≠ 0) fun i j => .int (i.fmod j)) a b
abbrev tDivI (a b : TE) : TE := tOp (rI CDivA fun i j => .int (i.fdiv j)) a b
abbrev tPowI (a b : TE) : TE := tOp (rI CPow fun i j => .int (i ^ j.toNat)) a b
abbrev tIntC (a : TE) : TE := tCB (fun xs H Q => (∃ i, xs = [V.int i] ∧ Q (.int i) H) ∨ ∃ k, xs = [V.bl k] ∧ Q (.int (if k then 1 else 0)) H) (tCons a tNil)
/-- what the text of _law_draw does; slots pen, many, cell, digit, blend -/
abbrev tDraw (K : PySem.W.Frag) : TS :=
  tSeq (tPut "count" (tAddI (tGet "count") (tC (.int 1))))
  (tSeq (tIfS (tAnd (tTest (tOp rEq (tGet "digits") (tC (.int 0)))) (tTest (tOp (rI0 fun i j => .bl (decide (i < j))) (tGet "at") (tCB (rLen K) (tCons (tGet "cells") tNil)))))
    (tSeq (tAsg (tOp (rIx K) (tGet "cells") (tGet "at")) (gName 2))
      (tSeq (tPut "at" (tAddI (tGet "at") (tC (.int 1))))
        (tIfS (tTest (tOp (rI0 fun i j => .bl (decide (j ≤ i))) (tVar 2) (tPowI (tC (.int 10)) (tC (.int 18)))))
          (tPut "digits" (tSubI (tVar 2) (tPowI (tC (.int 10)) (tC (.int 18)))))
          (tPut "fold" (tModI (tIntC (tAddI (tMulI (tGet "fold") (tC (.int 26701))) (tVar 2))) (tC (.int 2147483123)))))))
    tNext)
  (tSeq (tIfS (tTest (tOp (rI0 fun i j => .bl (decide (j < i))) (tGet "digits") (tC (.int 0))))
    (tSeq (tAsg (tModI (tIntC (tGet "digits")) (tVar 1)) (gName 3))
      (tSeq (tPut "digits" (tDivI (tGet "digits") (tVar 1))) (tRet (tVar 3))))
    tNext)
  (tSeq (tAsg (tAddI (tAddI (tGet "fold") (tMulI (tGet "count") (tC (.int 5443)))) (tC (.int 151))) (gName 4))
    (tRet (tModI (tDivI (tIntC (tModI (tPowI (tVar 4) (tC (.int 59))) (tC (.int 2305843009213693951)))) (tC (.int 256))) (tVar 1))))))

/-- the promise of _law_draw: any number below many -/
def drawW : List D → Wm D
  | [.pen, .int m] => fun K _ n => 0 < m ∧ m < 4294967296 ∧ n < 1099511627776 ∧ ∀ r : Int, 0 ≤ r → r < m → K (.int r) (n + 1)
  | _ => Wm.fail

theorem Grow.pen {F : Addr → Prop} {H : Hp} {n : Nat} {a c : Addr} {p p' : Pen} (pb : PenB F H n) (h : H a = some (.dK (penK c p))) (ok : p.Ok → p'.Ok) (ct : p'.ct ≤ ((n + 1 : Nat) : Int)) : Grow F H n F (upd H a (.dK (penK c p'))) (n + 1) where
  keep := fun b o e => by
    by_cases hb : b = a
    · subst hb
      rw [h] at e
      cases e
      exact .inr (.inl ⟨c, p, p', rfl, upd_same, ok⟩)
    · exact .inl (by rw [upd_ne hb]; exact e)
  sub := fun _ f => f
  new := fun _ f => .inl f
  pb := ⟨fun b c2 q e => by
    by_cases hb : b = a
    · subst hb
      rw [upd_same] at e
      obtain ⟨_, rfl⟩ := penK_inj (HO.dK.inj (Option.some.inj e))
      exact ct
    · rw [upd_ne hb] at e
      have := pb.ct b c2 q e
      omega, fun b f => by
    by_cases hb : b = a
    · subst hb; exact ⟨_, upd_same⟩
    · rw [upd_ne hb]; exact pb.dom b f, fun P ps e => by
    by_cases hb : P = a
    · subst hb
      rw [upd_same] at e
      cases e
    · rw [upd_ne hb] at e
      refine (pb.tb P ps e).mono (fun _ f => f) fun d _ q => ?_
      rw [upd_ne (fun e => by rw [e, h] at q; cases q)]
      exact q⟩
  le := by omega

theorem pow10 : ((10 : Int) ^ (18 : Int).toNat) = 1000000000000000000 := by decide
theorem cpow10 : CPow 10 18 := ⟨by decide, by decide, by decide⟩
/-- the last rows: by the fold -/
theorem draw_last {K : PySem.W.Frag} {F : Addr → Prop} {H0 H : Hp} {n : Nat} {a c : Addr} {m : Int} {p p0 : Pen} {σ : L2.St} {Q : VK} {D : Ends} (hd : D.rt = Q) (h0 : σ[0]? = some (some (.ref a))) (h1 : σ[1]? = some (some (.int m))) (hl : σ.length = 5)
    (h : H a = some (.dK (penK c p))) (ok : p.Ok) (hn : p.ct ≤ 1099511627777) (hm : 0 < m)
    (q : ∀ r : Int, 0 ≤ r → r < m → Q (.int r) H) :
    (tSeq (tAsg (tAddI (tAddI (tGet "fold") (tMulI (tGet "count") (tC (.int 5443)))) (tC (.int 151))) (gName 4))
    (tRet (tModI (tDivI (tIntC (tModI (tPowI (tVar 4) (tC (.int 59))) (tC (.int 2305843009213693951)))) (tC (.int 256))) (tVar 1)))) D σ H := by
  have f0 := ok.fd0
  have f1 := ok.fd1
  have c0 := ok.ct0
  refine run_get h0 h pg_fold ?_
  refine run_get h0 h pg_count ⟨_, _, rfl, rfl, ?_, ⟨_, _, rfl, rfl, ⟨_, _, rfl, rfl, ?_⟩⟩⟩
  · exact wide_mul (a := 41) (b := 13) (by omega) (by decide) (by decide) (by decide) (by decide)
  -- the store
  have h4 : (σ.set 4 (some (.int (p.fd + p.ct * 5443 + 151))))[4]? = some (some (.int (p.fd + p.ct * 5443 + 151))) := List.getElem?_set_self (by omega)
  have h1' : (σ.set 4 (some (.int (p.fd + p.ct * 5443 + 151))))[1]? = some (some (.int m)) := by rw [List.getElem?_set_ne (by decide)]; exact h1
  refine ⟨_, h4, ⟨_, _, rfl, rfl, ⟨by decide, by decide, by omega⟩, ⟨_, _, rfl, rfl, (show (2305843009213693951 : Int) ≠ 0 by decide), ?_⟩⟩⟩
  refine .inl ⟨_, rfl, ⟨_, _, rfl, rfl, ⟨by decide, by decide⟩, ⟨_, h1', ⟨_, _, rfl, rfl, (by omega : m ≠ 0), ?_⟩⟩⟩⟩
  show D.rt (.int (Int.fmod _ m)) H
  rw [hd]
  rw [Int.fmod_eq_emod_of_nonneg _ (by omega : 0 ≤ m)]
  exact q _ (Int.emod_nonneg _ (by omega)) (Int.emod_lt_of_pos _ hm)
/-- from the digits on -/
theorem draw_digits {K : PySem.W.Frag} {F : Addr → Prop} {H : Hp} {a c : Addr} {m : Int} {p : Pen} {σ : L2.St} {Q : VK} {D : Ends} (hd : D.rt = Q) (h0 : σ[0]? = some (some (.ref a))) (h1 : σ[1]? = some (some (.int m))) (hl : σ.length = 5)
    (h : H a = some (.dK (penK c p))) (ok : p.Ok) (hn : p.ct ≤ 1099511627777) (hm : 0 < m) (hm2 : m < 4294967296)
    (q : ∀ (r : Int) (p' : Pen), 0 ≤ r → r < m → p'.Ok → p'.ct = p.ct → Q (.int r) (upd H a (.dK (penK c p')))) :
    (tSeq (tIfS (tTest (tOp (rI0 fun i j => .bl (decide (j < i))) (tGet "digits") (tC (.int 0))))
    (tSeq (tAsg (tModI (tIntC (tGet "digits")) (tVar 1)) (gName 3))
      (tSeq (tPut "digits" (tDivI (tGet "digits") (tVar 1))) (tRet (tVar 3))))
    tNext)
  (tSeq (tAsg (tAddI (tAddI (tGet "fold") (tMulI (tGet "count") (tC (.int 5443)))) (tC (.int 151))) (gName 4))
    (tRet (tModI (tDivI (tIntC (tModI (tPowI (tVar 4) (tC (.int 59))) (tC (.int 2305843009213693951)))) (tC (.int 256))) (tVar 1))))) D σ H := by
  refine run_get h0 h pg_digits ⟨_, _, rfl, rfl, _, rfl, ?_⟩
  by_cases hdg : 0 < p.dg
  · rw [decide_eq_true hdg]
    refine iteT ?_
    refine run_get h0 h pg_digits (.inl ⟨_, rfl, ⟨_, h1, ⟨_, _, rfl, rfl, (by omega : m ≠ 0), ?_⟩⟩⟩)
    have h0' : (σ.set 3 (some (.int (p.dg.fmod m))))[0]? = some (some (.ref a)) := by rw [List.getElem?_set_ne (by decide)]; exact h0
    have h1' : (σ.set 3 (some (.int (p.dg.fmod m))))[1]? = some (some (.int m)) := by rw [List.getElem?_set_ne (by decide)]; exact h1
    have h3' : (σ.set 3 (some (.int (p.dg.fmod m))))[3]? = some (some (.int (p.dg.fmod m))) := List.getElem?_set_self (by omega)
    have hlg : m.natAbs.log2 < 9000 := Nat.lt_of_lt_of_le (PySem.Flt.log2_lt_of (n := m.natAbs) (k := 32) (by decide) (by omega)) (by decide)
    refine run_get h0' h pg_digits ⟨_, h1', ⟨_, _, rfl, rfl, ⟨by omega, hlg⟩, ?_⟩⟩
    refine ⟨_, h0', a, _, rfl, DPut.k (k := .inr "digits") h (penLen _ _), ?_⟩
    rw [pp_digits]
    refine ⟨_, h3', ?_⟩
    show D.rt _ _
    rw [hd, Int.fmod_eq_emod_of_nonneg _ (by omega : 0 ≤ m)]
    refine q _ _ (Int.emod_nonneg _ (by omega)) (Int.emod_lt_of_pos _ hm) ⟨ok.at0, ?_, ok.ct0, ok.fd0, ok.fd1⟩ rfl
    show 0 ≤ p.dg.fdiv m
    rw [Int.fdiv_eq_ediv_of_nonneg _ (by omega)]
    exact Int.ediv_nonneg (by omega) (by omega)
  · rw [decide_eq_false hdg]
    refine iteF ?_
    refine draw_last (K := K) (F := F) (H0 := H) (n := 0) (p0 := p) hd h0 h1 hl h ok hn hm fun r r0 r1 => ?_
    have e : upd H a (.dK (penK c p)) = H := by
      funext b
      by_cases hb : b = a
      · rw [hb, upd_same, h]
      · rw [upd_ne hb]
    rw [← e]
    exact q r p r0 r1 ok rfl
theorem run_draw {K : PySem.W.Frag} {F : Addr → Prop} {H : Hp} {n : Nat} {v1 v2 : V} {m : Int} {Q : VK} {D : Ends} {N : List Str} (hN : N.length = 5) (hd : D.rt = Q) (pb : PenB F H n) (hv : Has F H v1 .pen) (hv2 : Has F H v2 (.int m)) (hm : 0 < m) (hm2 : m < 4294967296) (hn : n < 1099511627776)
    (q : ∀ (r : Int) (H' : Hp), Grow F H n F H' (n + 1) → 0 ≤ r → r < m → Q (.int r) H') : tDraw K D (L2.start N [v1, v2]) H := by
  cases hv2
  cases hv with
  | @pen a c p ns fa ha ok fc hc hl =>
  have hct := pb.ct a c p ha
  have hlen : ∀ vs : List V, vs.length = 2 → (L2.start N vs).length = 5 := fun vs h => by simp [L2.start, hN, h]
  have h0 : (L2.start N [.ref a, .int m])[0]? = some (some (.ref a)) := rfl
  have h1 : (L2.start N [.ref a, .int m])[1]? = some (some (.int m)) := rfl
  have hl5 := hlen [.ref a, .int m] rfl
  generalize L2.start N [.ref a, .int m] = σ at h0 h1 hl5
  -- count
  refine run_get h0 ha pg_count ⟨_, _, rfl, rfl, ?_⟩
  refine ⟨_, h0, a, _, rfl, DPut.k (k := .inr "count") ha (penLen _ _), ?_⟩
  rw [pp_count]
  have hne : c ≠ a := fun e => by rw [e, ha] at hc; cases hc
  have ok1 : ({ p with ct := p.ct + 1 } : Pen).Ok := ⟨ok.at0, ok.dg0, by have := ok.ct0; show 0 ≤ p.ct + 1; omega, ok.fd0, ok.fd1⟩
  have key : ∀ (σ' : L2.St) (p' : Pen), σ'[0]? = some (some (.ref a)) → σ'[1]? = some (some (.int m)) → σ'.length = 5 → p'.Ok → p'.ct = p.ct + 1 →
      (tSeq (tIfS (tTest (tOp (rI0 fun i j => .bl (decide (j < i))) (tGet "digits") (tC (.int 0))))
        (tSeq (tAsg (tModI (tIntC (tGet "digits")) (tVar 1)) (gName 3))
          (tSeq (tPut "digits" (tDivI (tGet "digits") (tVar 1))) (tRet (tVar 3))))
        tNext)
      (tSeq (tAsg (tAddI (tAddI (tGet "fold") (tMulI (tGet "count") (tC (.int 5443)))) (tC (.int 151))) (gName 4))
        (tRet (tModI (tDivI (tIntC (tModI (tPowI (tVar 4) (tC (.int 59))) (tC (.int 2305843009213693951)))) (tC (.int 256))) (tVar 1))))) D σ' (upd H a (.dK (penK c p'))) := fun σ' p' e0 e1 el okp ec => by
    refine draw_digits (K := K) (F := F) hd e0 e1 el upd_same okp (by rw [ec]; omega) hm hm2 fun r p2 r0 r1 ok2 e2 => ?_
    rw [upd_upd]
    exact q r _ (.pen pb ha (fun _ => ok2) (by rw [e2, ec]; omega)) r0 r1
  -- the cell
  have hb : (upd H a (.dK (penK c { p with ct := p.ct + 1 }))) a = some (.dK (penK c { p with ct := p.ct + 1 })) := upd_same
  have hcb : (upd H a (.dK (penK c { p with ct := p.ct + 1 }))) c = some (.lst (ns.map V.int)) := by rw [upd_ne hne]; exact hc
  refine run_get h0 hb pg_digits ⟨rfl, _, rfl, ?_⟩
  by_cases hz : p.dg = 0
  · have e : decide (V.int p.dg = V.int 0) = true := by rw [hz]; rfl
    show if decide (V.int p.dg = V.int 0) = true then _ else _
    rw [e]
    refine iteT ?_
    refine run_get h0 hb pg_at (run_get h0 hb pg_cells (.inl ⟨c, ns.map V.int, rfl, .inl (.of hcb), ⟨_, _, rfl, rfl, _, rfl, ?_⟩⟩))
    by_cases hat : p.at_ < ((ns.map V.int).length : Int)
    · rw [decide_eq_true hat]
      refine iteT ?_
      have a0 := ok.at0
      have hjl : p.at_.toNat < ns.length := by simp at hat; omega
      have hix : L2.atI (ns.map V.int) p.at_ = some (.int ns[p.at_.toNat]) := by
        have e1 : L2.ixN (ns.map V.int).length p.at_ = some p.at_.toNat := by
          unfold L2.ixN
          simp only [List.length_map]
          rw [if_pos a0, if_pos (by simpa using hat)]
        unfold L2.atI
        rw [e1]
        simp [hjl]
      refine run_get h0 hb pg_cells (run_get h0 hb pg_at (.inl ⟨c, ns.map V.int, _, _, rfl, rfl, .of hcb, hix, ?_⟩))
      generalize ns[p.at_.toNat] = cell
      have h0' : (σ.set 2 (some (.int cell)))[0]? = some (some (.ref a)) := by rw [List.getElem?_set_ne (by decide)]; exact h0
      have h1' : (σ.set 2 (some (.int cell)))[1]? = some (some (.int m)) := by rw [List.getElem?_set_ne (by decide)]; exact h1
      have h2' : (σ.set 2 (some (.int cell)))[2]? = some (some (.int cell)) := List.getElem?_set_self (by omega)
      have hl' : (σ.set 2 (some (.int cell))).length = 5 := by simp [hl5]
      refine run_get h0' hb pg_at ⟨_, _, rfl, rfl, ?_⟩
      refine ⟨_, h0', a, _, rfl, DPut.k (k := .inr "at") hb (penLen _ _), ?_⟩
      rw [pp_at, upd_upd]
      refine ⟨_, h2', ⟨_, _, rfl, rfl, cpow10, ⟨_, _, rfl, rfl, _, rfl, ?_⟩⟩⟩
      rw [pow10]
      have hb2 : (upd H a (.dK (penK c { p with at_ := p.at_ + 1, ct := p.ct + 1 }))) a = some (.dK (penK c { p with at_ := p.at_ + 1, ct := p.ct + 1 })) := upd_same
      by_cases hbig : (1000000000000000000 : Int) ≤ cell
      · rw [decide_eq_true hbig]
        refine iteT ?_
        refine ⟨_, h2', ⟨_, _, rfl, rfl, cpow10, ⟨_, _, rfl, rfl, ?_⟩⟩⟩
        refine ⟨_, h0', a, _, rfl, DPut.k (k := .inr "digits") hb2 (penLen _ _), ?_⟩
        rw [pp_digits, upd_upd, pow10]
        exact key _ _ h0' h1' hl' ⟨by show 0 ≤ p.at_ + 1; omega, by show 0 ≤ cell - 1000000000000000000; omega, ok1.ct0, ok.fd0, ok.fd1⟩ rfl
      · rw [decide_eq_false hbig]
        refine iteF ?_
        refine run_get h0' hb2 pg_fold ⟨_, _, rfl, rfl, ?_, ⟨_, h2', ⟨_, _, rfl, rfl, .inl ⟨_, rfl, ⟨_, _, rfl, rfl, (show (2147483123 : Int) ≠ 0 by decide), ?_⟩⟩⟩⟩⟩
        · have f0 := ok.fd0
          have f1 := ok.fd1
          exact wide_mul (a := 32) (b := 15) (by show p.fd.natAbs < _; omega) (by decide) (by decide) (by decide) (by decide)
        refine ⟨_, h0', a, _, rfl, DPut.k (k := .inr "fold") hb2 (penLen _ _), ?_⟩
        rw [pp_fold, upd_upd]
        refine key _ _ h0' h1' hl' ⟨by show 0 ≤ p.at_ + 1; omega, ok.dg0, ok1.ct0, ?_, ?_⟩ rfl
        · show 0 ≤ Int.fmod _ _
          rw [Int.fmod_eq_emod_of_nonneg _ (by decide)]
          exact Int.emod_nonneg _ (by decide)
        · show Int.fmod _ _ < _
          rw [Int.fmod_eq_emod_of_nonneg _ (by decide)]
          exact Int.emod_lt_of_pos _ (by decide)
    · rw [decide_eq_false hat]
      refine iteF ?_
      exact key σ _ h0 h1 hl5 ok1 rfl
  · have e : decide (V.int p.dg = V.int 0) = false := decide_eq_false fun z => hz (V.int.inj z)
    show if decide (V.int p.dg = V.int 0) = true then _ else _
    rw [e]
    refine iteF ?_
    exact iteF (key σ _ h0 h1 hl5 ok1 rfl)

/-! ### _law_pen -/
/-- list(script) and the dict -/
def penF (K : PySem.W.Frag) : D → D → Wm D
  | .scr K' ns _, .int f => do Wm.need (K' = K ∧ ns.length ≤ 63 ∧ 0 ≤ f ∧ f < 2147483123); pure .pen
  | _, _ => Wm.fail
def penD (K : PySem.W.Frag) (i j : Nat) : TD D := fun ρ => do let s ← getD i ρ; let f ← getD j ρ; penF K s f
theorem getD_run {i : Nat} {ρ : Env'} {K : D → Nat → Prop} {X : XD → Nat → Prop} {n : Nat} (h : getD i ρ K X n) : ∃ x, ρ[i]? = some (some (.d x)) ∧ K x n := by
  unfold getD at h
  match e : ρ[i]? with
  | some (some (.d x)) => rw [e] at h; exact ⟨x, rfl, h⟩
  | some (some (.ml _)) => rw [e] at h; exact h.elim
  | some none => rw [e] at h; exact h.elim
  | none => rw [e] at h; exact h.elim
abbrev tPenDict (K : PySem.W.Frag) (i j : Nat) : TE :=
  tDisp [(tC (.str "cells"), tCB (fun xs H Q => ∃ p ys, xs = [.ref p] ∧ (SqL K H p ys ∨ SqT K H p ys) ∧ ∀ l, H l = none → Q (.ref l) (upd H l (.lst ys))) (tCons (tVar i) tNil)), (tC (.str "at"), tC (.int 0)), (tC (.str "digits"), tC (.int 0)), (tC (.str "count"), tC (.int 0)), (tC (.str "fold"), tVar j)]
theorem run_pen {K : PySem.W.Frag} {W : WX} {i j : Nat} : RunE W (tPenDict K i j) (penD K i j) := by
  intro F H n σ ρ Kd Kx Q hs ht hq hx
  obtain ⟨x, e1, ht1⟩ := getD_run (show getD i ρ (fun s n' => (do let f ← getD j ρ; penF K s f : Wm D) Kd Kx n') Kx n from ht)
  obtain ⟨y, e2, ht2⟩ := getD_run (show getD j ρ (fun f n' => penF K x f Kd Kx n') Kx n from ht1)
  have ht3 : penF K x y Kd Kx n := ht2
  clear ht ht1 ht2
  obtain ⟨v1, s1, hv1⟩ := hs.at_ _ _ e1
  obtain ⟨v2, s2, hv2⟩ := hs.at_ _ _ e2
  have hv1 : Has F H v1 x := hv1
  have hv2 : Has F H v2 y := hv2
  cases hv1 <;> try exact ht3.elim
  rename_i a K' ns tabs hsc _
  cases hv2 <;> try exact ht3.elim
  rename_i f
  obtain ⟨⟨hK, hl, f0, f1⟩, hk⟩ := ht3
  subst hK
  intro p hp
  have hsq : SqL K' (upd H p (.dK [])) a (ns.map V.int) := hsc.elim (fun ⟨o, fa, e⟩ => .inl (.inr ⟨o, by rw [upd_ne (ne_of_none e hp)]; exact e⟩)) (fun k => k _)
  refine ⟨_, s1, a, _, rfl, .inl hsq, fun l hl0 => ?_⟩
  have hlp : l ≠ p := fun e => by rw [e, upd_same] at hl0; cases hl0
  have hl1 : H l = none := by rw [upd_ne hlp] at hl0; exact hl0
  refine ⟨_, s2, ?_, [(.inr "cells", .ref l), (.inr "at", .int 0), (.inr "digits", .int 0), (.inr "count", .int 0), (.inr "fold", .int f)], rfl, by show 5 ≤ 15; decide, ?_⟩
  · rw [upd_ne (Ne.symm hlp), upd_same]
  have em : mergeK [] [((.inr "cells" : Key), V.ref l), (.inr "at", .int 0), (.inr "digits", .int 0), (.inr "count", .int 0), (.inr "fold", .int f)] = penK l ⟨0, 0, 0, f⟩ := rfl
  rw [em]
  have ne : ∀ {b : Addr} {o : HO}, H b = some o → b ≠ p ∧ b ≠ l := fun e => ⟨ne_of_none e hp, ne_of_none e hl1⟩
  have at_ : ∀ b, b ≠ p → b ≠ l → upd (upd (upd H p (.dK [])) l (.lst (ns.map V.int))) p (.dK (penK l ⟨0, 0, 0, f⟩)) b = H b := fun b h1 h2 => by rw [upd_ne h1, upd_ne h2, upd_ne h1]
  refine hq _ .pen (fun b => F b ∨ b = p ∨ b = l) _ n ⟨fun b o e => .inl (by rw [at_ b (ne e).1 (ne e).2]; exact e), fun b fb => .inl fb, fun b fb => ?_, ⟨fun b c q e => ?_, fun b fb => ?_, fun P ps e => ?_⟩, Nat.le_refl _⟩ ?_ hk
  · rcases fb with fb | rfl | rfl
    · exact .inl fb
    · exact .inr hp
    · exact .inr hl1
  · by_cases hb : b = p
    · subst hb
      rw [upd_same] at e
      obtain ⟨_, rfl⟩ := penK_inj (HO.dK.inj (Option.some.inj e))
      exact Int.natCast_nonneg n
    · by_cases hb2 : b = l
      · subst hb2
        rw [upd_ne hb, upd_same] at e
        cases e
      · rw [at_ b hb hb2] at e
        exact hs.pb.ct b c q e
  · by_cases hb : b = p
    · subst hb; exact ⟨_, upd_same⟩
    · by_cases hb2 : b = l
      · subst hb2; exact ⟨_, by rw [upd_ne hb, upd_same]⟩
      · rw [at_ b hb hb2]
        exact hs.pb.dom b (fb.resolve_right fun z => z.elim hb hb2)
  · by_cases hb : P = p
    · subst hb; rw [upd_same] at e; cases e
    · by_cases hb2 : P = l
      · subst hb2; rw [upd_ne hb, upd_same] at e; cases e
      · rw [at_ P hb hb2] at e
        exact (hs.pb.tb P ps e).mono (fun _ => .inl) fun d _ q => by rw [at_ d (ne q).1 (ne q).2]; exact q
  · refine .pen (c := l) (p := ⟨0, 0, 0, f⟩) (ns := ns) (.inr (.inl rfl)) upd_same ⟨Int.le_refl 0, Int.le_refl 0, Int.le_refl 0, f0, f1⟩ (.inr (.inr rfl)) ?_ hl
    rw [upd_ne hlp, upd_same]
theorem DE.pen {ι : Type} {X : ι → Cx} {W : WX} {K : PySem.W.Frag} {i j : Nat} {e : Expr} (h : ∀ k, PE (X k) e (tPenDict K i j)) : DE X W e (penD K i j) := ⟨_, h, run_pen⟩

/-- what comes of one's text, in a word -/
theorem draw_ok {P : Program} {w : World} {K : PySem.W.Frag} {mg : Str → Option Value} {base : Heap} {x qual : Str} {st : Stmt} {f : Addr} {fd : FuncData} {N ps : List Str} {k : Nat} (F : Fun K x qual st f fd) (S : FnScope N ps (defScope st)) (hN : N.length = 5) (hps : ps.length = 2)
    (hbody : ∀ (cdv : Value) (A : Around) (outer : List Env) (s : Shared) (H : Hp) (E : XK), A.guards = some [] → Room k (A.deeper (envOfC qual (defScope st) s.heap.objs.size f cdv)) → PSs (cxOf (L2.CX P w) P w K mg base N qual (defScope st) f cdv A outer s H E) (defBody st) (tDraw K)) :
    FnG P w K mg base (k + 1) f fd ps (spD 2 drawW) := by
  refine FnG.of F S (fun vs H Q E h => by rw [hps]; exact h.1) fun cdv _ A outer s H vs Q E hg hr h => ?_
  obtain ⟨hl, F0, n, ds, Kd, Kx, pb, hv, hw', hq, hx⟩ := h
  refine ⟨_, hbody cdv A outer s H E hg hr, ?_⟩
  cases hv with
  | nil => exact hw'.elim
  | cons h1 hv =>
  cases hv with
  | nil => cases h1 <;> exact hw'.elim
  | cons h2 hv =>
  cases hv with
  | cons _ _ => cases h1 <;> cases h2 <;> exact hw'.elim
  | nil =>
  cases h1 <;> try exact hw'.elim
  cases h2 <;> try exact hw'.elim
  obtain ⟨m0, m1, n0, hk⟩ := hw'
  rename_i h1 ok1 fc1 hc1 hl1 m
  exact run_draw hN rfl pb (.pen (by assumption) (by assumption) (by assumption) (by assumption) (by assumption) (by assumption)) (.int _) m0 m1 n0 fun r H' g r0 r1 => hq _ _ F0 H' _ g (.int r) (hk r r0 r1)
end DL


set_option maxRecDepth 100000
set_option maxHeartbeats 2000000
/-! DL6: try with several clauses that bear a name; raise; own errors. Own work over HandS. -/
namespace DL
open PySem PySem.Spec PyProof.Rows L2

/-- behind a suite with a name: the name is gone -/
abbrev goneD (i : Nat) (D : Ends) : Ends := { nx := fun σ' H' => D.nx (σ'.set i none) H', rt := D.rt, bk := fun σ' H' => D.bk (σ'.set i none) H', ct := fun σ' H' => D.ct (σ'.set i none) H' }
/-- what the clauses wish of an exception of the body, one after the other; slot i is the name's -/
def wNamed (K : PySem.W.Frag) (i : Nat) (Wout : WX) (D : Ends) : List (Value × (Addr → Value → Option Addr → TS)) → WX
  | [] => Wout
  | (c, ts) :: r => fun cls d σ H => ∃ b, PySem.W.exmOne K cls c = some b ∧ (b = true → ∀ a, H a = none → ts a cls d (goneD i D) (σ.set i (some (.ref a))) H) ∧ (b = false → wNamed K i Wout D r cls d σ H)
inductive HdsN (X : Cx) (n : Str) : List ExceptHandler → List (Value × (Addr → Value → Option Addr → TS)) → Prop
  | nil : HdsN X n [] []
  | cons {x : Str} {c : Value} {ts : Addr → Value → Option Addr → TS} {b₀ : Stmt} {suite : List Stmt} {np pos' : Pos} {hds : List ExceptHandler} {l : List (Value × (Addr → Value → Option Addr → TS))} (hc : Names X x c)
      (hsu : ∀ (a : Addr) (oe : Obj) (cls : Value) (d : Option Addr) (pn : List (Addr × Obj)), Zc cls d oe → (∃ vs, oe.data = .fields vs) → PSs (X.suite a ((a, oe) :: pn)) (b₀ :: suite) (ts a cls d)) (r : HdsN X n hds l) :
      HdsN X n (.ExceptHandler (some (.Name x np)) (some n) (b₀ :: suite) pos' :: hds) ((c, ts) :: l)
section
variable {X : Cx} {n : Str} {i : Nat} {body : List Stmt} {h₀ : ExceptHandler} {hds : List ExceptHandler} {l : List (Value × (Addr → Value → Option Addr → TS))} {pos : Pos} {tb : WX → TS} {Wout : WX}
theorem ps_try_named (hs : X.stack = X.env :: X.outer) (hf : X.env.frame = some X.env.locals) (hN : X.N.Nodup) (hi : X.N[i]? = some n) (hln : X.env.kindOf n = some .local) (tk : Takes X Wout)
    (hb : ∀ (W : WX) (pn : List (Addr × Obj)) (xe : Value → Shared → Prop), Takes (X.tr pn xe) W → PSs (X.tr pn xe) body (tb W))
    (hh : HdsN X n (h₀ :: hds) l) : PS X (.Try body (h₀ :: hds) [] [] pos) (fun D σ H => tb (wNamed X.K i Wout D l) D σ H) := by
  refine ⟨fun pins s σ H D I h => ?_⟩
  have ok := I.ok
  have hfr : X.A.frames = some (X.env :: X.outer) := by rw [ok.frames, hs]
  have hloc : Loc X.env.scope n := .inl hln
  refine wpAny_Try_except ?_
  refine wpAny_mono ((hb (wNamed X.K i Wout D l) (X.pn ++ pins) _ (fun u s' xx => ?_)).run [] s σ H D (I.toTry _) h) (fun f s1 hsp => ?_) (fun e s1 he => he)
  · obtain ⟨a, B, sI, pins', σ', H', cls, d, rfl, J', nb, up, sky, na, os, ag, w⟩ := xx
    have J : Inv X pins σ' H' sI := J'.ofTry ok
    have sky' : Sky B (X.env :: X.outer) a (Zc cls d) X.env.locals s'.heap := by rw [← hs]; exact sky
    refine Sky.land Zc.steady hfr hf sky' fun h3 fl3 up3 => ?_
    have J3 : Inv X pins σ' H' { s' with heap := h3 } := J.landed nb fl3.1 (up.trans up3) os ag
    obtain ⟨oe3, vs3, he3, hz3, hd3⟩ := fl3.there
    have off : a ∉ frs (X.env :: X.outer) := fun hm => by
      obtain ⟨_, o', e', hnf⟩ := fl3.2.2.1.mem hm
      rw [he3] at e'
      cases e'
      exact hnf _ hd3
    have nL : a ≠ X.env.locals := fun z => off (List.mem_filterMap.mpr ⟨X.env, List.mem_cons_self, by rw [hf, z]⟩)
    have nF : a ∉ X.fs := fun hm => by
      obtain ⟨e, he, q⟩ := List.mem_filterMap.mp hm
      exact off (List.mem_filterMap.mpr ⟨e, List.mem_cons_of_mem _ he, q⟩)
    have S3 := J3.suite he3 hd3 na nL nF
    suffices go : ∀ (hds' : List ExceptHandler) (l' : List (Value × (Addr → Value → Option Addr → TS))), HdsN X n hds' l' → wNamed X.K i Wout D l' cls d σ' H' →
        wpAny (model X.prog X.w) X.A (handleBy (.ref a) X.env hds') (SP X pins D) X.xe { s' with heap := h3 } from go _ _ hh w
    intro hds' l' hk
    induction hk with
    | nil =>
      intro w
      refine wpAny_handleBy_nil ?_
      obtain ⟨k1, k2, k3, oe, vs, T, oT, ts', he, hz, hd, h1, hr⟩ := id fl3
      unfold PySem.passOn
      refine wpAny_bind (wpAny_field he hd h1 ?_)
      rw [if_neg (show ¬ ((Value.ref T == Value.none) = true) from by simp)]
      have out : wpAny (model X.prog X.w) X.A (setFlight (.ref a) X.env.frame) (fun _ s4 => wpAny (model X.prog X.w) X.A (throw (.ref a) : Sem Flow) (SP X pins D) X.xe s4) X.xe { s' with heap := h3 } := by
        rw [hf]
        exact HandSPX.setFlight_upZ fl3 fun h4 hh4 up4 => wpAny_throw (tk _ _ ⟨a, B, sI, pins, σ', H', cls, d, rfl, J, nb, (up.trans up3).trans up4, .inr (.inr (by rw [hs]; exact hh4)), na, os, ag, w⟩)
      first
        | exact wpAny_bind (wpAny_pure (wpAny_bind out))
        | exact wpAny_bind out
    | @cons x c ts b₀ suite np pos' hds2 l2 hc hsu r ih =>
      intro w
      obtain ⟨b, hb1, hyes, hno⟩ := w
      refine wpAny_handleBy_cons (codeAny_handlers_test ?_) (by intro q; cases q)
      have LM := PySem.W.exm_one (M := model X.prog X.w) (J3.kIn) (fun A Q E s k q => wpAny_typeOf_ref (k _ _ he3) (by rw [hz3.1]; exact q)) hb1
      have test : ∀ {Q : Value → Shared → Prop} {E : Value → Shared → Prop}, Q c { s' with heap := h3 } → wpAny (model X.prog X.w) (X.A.mark (some (.ref a))) (eval (.Name x np) X.env) Q E { s' with heap := h3 } := fun {Q E} q => by
        obtain ⟨hg, hdbg, hm | ⟨hm, hv, hnn⟩⟩ := hc
        · exact ld_glob (X := X.suite a ((a, oe3) :: (X.pn ++ pins))) S3 hg hm q hdbg
        · exact ld_blt (X := X.suite a ((a, oe3) :: (X.pn ++ pins))) S3 hg hm hv q hnn hdbg
      refine test (LM.here ?_)
      cases b with
      | false => exact ih (hno rfl)
      | true =>
        refine codeAny_handlers_suite_as ?_
        refine HandSPX.lands_againZ fl3 fun h4 fl4 up4 => ?_
        have J4 : Inv X pins σ' H' { s' with heap := h4 } := J.landed nb fl4.1 ((up.trans up3).trans up4) os ag
        obtain ⟨oe4, vs4, he4, hz4, hd4⟩ := fl4.there
        refine store_ok (X := X.suite a ((a, oe4) :: (X.pn ++ pins))) (v := .ref a) (J4.suite he4 hd4 na nL nF) hN hi hloc rfl (fun s5 S5 => ?_) (.inr hln)
        refine wpAny_mono ((hsu a oe4 cls d (X.pn ++ pins) hz4 ⟨_, hd4⟩).run [] s5 _ H' (goneD i D) S5 (hyes rfl a na)) (fun f s6 hsp => ?_) (fun _ _ z => False.elim z)
        cases f with
        | ret u =>
          obtain ⟨v6, σ6, H6, S6, r6, q6⟩ := hsp
          exact gone_ok (S6.unsuite ok) hN hi hln fun s7 J7 => ⟨_, _, _, J7, r6, q6⟩
        | next =>
          obtain ⟨σ6, H6, S6, q6⟩ := hsp
          exact gone_ok (S6.unsuite ok) hN hi hln fun s7 J7 => ⟨_, _, J7, q6⟩
        | brk =>
          obtain ⟨σ6, H6, S6, q6⟩ := hsp
          exact gone_ok (S6.unsuite ok) hN hi hln fun s7 J7 => ⟨_, _, J7, q6⟩
        | cont =>
          obtain ⟨σ6, H6, S6, q6⟩ := hsp
          exact gone_ok (S6.unsuite ok) hN hi hln fun s7 J7 => ⟨_, _, J7, q6⟩
  · cases f with
    | ret u =>
      obtain ⟨v, σ', H', J', r, q⟩ := hsp
      exact ⟨v, σ', H', J'.ofTry ok, r, q⟩
    | next =>
      obtain ⟨σ', H', J', q⟩ := hsp
      exact wpAny_execs_nil ⟨σ', H', J'.ofTry ok, q⟩
    | brk =>
      obtain ⟨σ', H', J', q⟩ := hsp
      exact ⟨σ', H', J'.ofTry ok, q⟩
    | cont =>
      obtain ⟨σ', H', J', q⟩ := hsp
      exact ⟨σ', H', J'.ofTry ok, q⟩
end

/-! ### suites: return a tuple of texts and fields of what was caught -/
/-- an item: a text, or a field -/
abbrev FIt := Str × Bool
inductive FItems (X : Cx) (i : Nat) : List Expr → List FIt → Prop
  | nil : FItems X i [] []
  | str {x : Str} {j : Nat} {pos : Pos} {es : List Expr} {l : List FIt} (r : FItems X i es l) (hs : starEach (.Constant (.str x) j pos :: es) X.env = (false, eval (.Constant (.str x) j pos) X.env) :: starEach es X.env := by rfl) : FItems X i (.Constant (.str x) j pos :: es) ((x, false) :: l)
  | fld {x n : Str} {p pos : Pos} {es : List Expr} {l : List FIt} (hN : X.N[i]? = some n) (hv : Vis X.env.scope n) (hd : (n == ("__debug__" : Str)) = false) (hcd : (n == ("__classdict__" : Str)) = false) (r : FItems X i es l)
      (hs : starEach (.Attribute (.Name n p) x pos :: es) X.env = (false, eval (.Attribute (.Name n p) x pos) X.env) :: starEach es X.env := by rfl)
      (hb : attributeBase (.Name n p) x X.env (eval (.Name n p) X.env) = eval (.Name n p) X.env := by rfl) : FItems X i (.Attribute (.Name n p) x pos :: es) ((x, true) :: l)
def tItems (a : Addr) (cls : Value) (d : Option Addr) (C : Addr) (i : Nat) : List FIt → TA
  | [] => tNil
  | (x, false) :: l => tCons (tC (.str x)) (tItems a cls d C i l)
  | (x, true) :: l => tCons (tXf a cls d C x (tVar i)) (tItems a cls d C i l)
theorem pa_items {X : Cx} {i : Nat} {es : List Expr} {l : List FIt} (h : FItems X i es l) {a C : Addr} {oe : Obj} {cls : Value} {d : Option Addr} {pn : List (Addr × Obj)} (T : XfC X.K C) (hz : Zc cls d oe) (hf : ∃ vs, oe.data = .fields vs)
    (hno : ∀ x, (x, true) ∈ l → PySem.W.findIn X.K (.ref C) x = some none) : PA (X.suite a ((a, oe) :: pn)) es (tItems a cls d C i l) := by
  induction h with
  | nil => exact pa_nil
  | str r hs ih => exact pa_cons pe_str (ih fun x hx => hno x (List.mem_cons_of_mem _ hx)) hs
  | fld hN hv hd hcd r hs hb ih => exact pa_cons (pe_xf T (hno _ List.mem_cons_self) hz hf (pe_var hN hv hd hcd) hb) (ih fun x hx => hno x (List.mem_cons_of_mem _ hx)) hs
/-- the data of a field -/
def fieldD : List Str → List D → Str → Option D
  | n :: ns, d :: ds, x => if x = n then some d else fieldD ns ds x
  | _, _, _ => none
def itemsD (ns : List Str) (ds : List D) : List FIt → Option (List D)
  | [] => some []
  | (x, false) :: l => (itemsD ns ds l).map (.str x :: ·)
  | (x, true) :: l => (fieldD ns ds x).bind fun d => (itemsD ns ds l).map (d :: ·)
theorem field_has {F : Addr → Prop} {H : Hp} : ∀ {fs : List (Str × V)} {ds : List D} {x : Str} {d : D}, HasL F H (fs.map (·.2)) ds → fieldD (fs.map (·.1)) ds x = some d → ∃ v, fs.lookup x = some v ∧ Has F H v d
  | [], ds, x, d, h, e => by cases ds <;> cases e
  | (n, v) :: fs, [], x, d, h, e => by cases e
  | (n, v) :: fs, d0 :: ds, x, d, h, e => by
    cases h with
    | cons h1 h2 =>
    have e : (if x = n then some d0 else fieldD (fs.map (·.1)) ds x) = some d := e
    rw [lookup_put]
    by_cases hx : x = n
    · rw [if_pos hx] at e ⊢
      cases e
      exact ⟨v, rfl, h1⟩
    · rw [if_neg hx] at e ⊢
      exact field_has h2 e
theorem run_items {F : Addr → Prop} {H : Hp} {a C dd : Addr} {cls : Value} {i : Nat} {σ : L2.St} {fs : List (Str × V)} {ds : List D} (hc : cls = .ref C) (hd : H dd = some (.xd fs)) (hi : σ[i]? = some (some (.ref a))) (hl : HasL F H (fs.map (·.2)) ds) :
    ∀ (l : List FIt) (ys : List D) (Q : List V → Hp → Prop), itemsD (fs.map (·.1)) ds l = some ys → (∀ vs, HasL F H vs ys → Q vs H) → tItems a cls (some dd) C i l σ H Q
  | [], ys, Q, e, q => by cases e; exact q [] .nil
  | (x, false) :: l, ys, Q, e, q => by
    obtain ⟨zs, e1, e2⟩ := Option.map_eq_some_iff.mp e
    subst e2
    exact run_items hc hd hi hl l zs _ e1 fun vs hv => q (.str x :: vs) (.cons (.str x) hv)
  | (x, true) :: l, ys, Q, e, q => by
    obtain ⟨d, e0, e⟩ := Option.bind_eq_some_iff.mp e
    obtain ⟨zs, e1, e2⟩ := Option.map_eq_some_iff.mp e
    subst e2
    obtain ⟨v, lk, hv⟩ := field_has hl e0
    exact ⟨.ref a, hi, rfl, hc, dd, fs, v, rfl, hd, lk, run_items hc hd hi hl l zs _ e1 fun vs hvs => q (v :: vs) (.cons hv hvs)⟩

/-! ### the clauses by data -/
/-- a clause: its class, what it returns -/
abbrev Clause := Addr × List FIt
abbrev clauseT (i : Nat) (c : Clause) : Value × (Addr → Value → Option Addr → TS) := (.ref c.1, fun a cls d => tRet (tTup (tItems a cls d c.1 i c.2)))
def dClauses (K : PySem.W.Frag) (E : DEnds) (x : XD) (ρ : Env') (n : Nat) : List Clause → Prop
  | [] => E.ex x ρ n
  | (C, l) :: r => ∃ b, PySem.W.exmOne K (.ref x.C) (.ref C) = some b ∧ (b = true → x.C = C ∧ ∃ ys, itemsD x.ns x.ds l = some ys ∧ Fits ys.length ∧ E.rt (.tup ys) n) ∧ (b = false → dClauses K E x ρ n r)
def dTry (K : PySem.W.Frag) (i : Nat) (t : TDS) (cl : List Clause) : TDS := fun E ρ n => t { E with ex := fun x ρ' n' => i < ρ'.length ∧ dClauses K E x ρ' n' cl } ρ n
theorem clauses_ok {K : PySem.W.Frag} {i : Nat} {W : WX} {B : Base} {F₁ : Addr → Prop} {H₁ : Hp} {n₁ : Nat} {E : DEnds} {Z : Ends} (eo : EndsOk W B F₁ H₁ n₁ E Z) {cls : Value} {od : Option Addr} {x : XD} {σ : L2.St} {ρ : Env'} {F : Addr → Prop} {H : Hp} {n : Nat}
    (s : Stt B F H n σ ρ) (l : Later F₁ H₁ n₁ F H n) (hx : HasX F H cls od x) (hi : i < σ.length) : ∀ cl : List Clause, dClauses K E x ρ n cl → wNamed K i W Z (cl.map (clauseT i)) cls od σ H
  | [], h => eo.ex cls od x σ ρ F H n s l hx h
  | (C, its) :: r, h => by
    obtain ⟨b, hb, hyes, hno⟩ := h
    obtain ⟨rfl, dd, fs, rfl, hd, hns, hl⟩ := id hx
    refine ⟨b, hb, fun e a na => ?_, fun e => clauses_ok eo s l hx hi r (hno e)⟩
    obtain ⟨hC, ys, e1, hf, hrt⟩ := hyes e
    rw [← hns] at e1
    refine run_items (F := F) (by rw [hC]) hd (List.getElem?_set_self hi) hl its ys _ e1 fun vs hv => ⟨by rw [hv.len]; exact hf, fun p hp => ?_⟩
    have g : Grow F H n (plusF F p) (upd H p (.tup vs)) n := .laid s.hs.pb hp .tup
    exact eo.rt _ (.tup ys) _ _ n (s.grow.trans g) (.tup plusF_same upd_same (hv.mono g)) hrt
/-- the contexts of a try's body -/
abbrev TryI {ι : Type} (X : ι → Cx) (W : WX) : Type := { p : ι × List (Addr × Obj) × (Value → Shared → Prop) // Takes ((X p.1).tr p.2.1 p.2.2) W }
abbrev tryX {ι : Type} (X : ι → Cx) (W : WX) : TryI X W → Cx := fun p => (X p.1.1).tr p.1.2.1 p.1.2.2
section
variable {ι : Type} {X : ι → Cx} {W : WX} {K : PySem.W.Frag}
theorem DS.tryC {n : Str} {i : Nat} {body : List Stmt} {h₀ : ExceptHandler} {hds : List ExceptHandler} {cl : List Clause} {pos : Pos} {t : TDS} (hK : ∀ k, (X k).K = K) (hs : ∀ k, (X k).stack = (X k).env :: (X k).outer) (hf : ∀ k, (X k).env.frame = some (X k).env.locals) (hN : ∀ k, (X k).N.Nodup)
    (hi : ∀ k, (X k).N[i]? = some n) (hln : ∀ k, (X k).env.kindOf n = some .local) (tk : ∀ k, Takes (X k) W) (hb : ∀ W' : WX, DSs (tryX X W') W' body t) (hh : ∀ k, HdsN (X k) n (h₀ :: hds) (cl.map (clauseT i))) :
    DS X W (.Try body (h₀ :: hds) [] [] pos) (dTry K i t cl) := by
  refine ⟨_, fun k => by
    have h := ps_try_named (X := X k) (pos := pos) (tb := fun W' => Classical.choose (hb W').ex) (hs k) (hf k) (hN k) (hi k) (hln k) (tk k) (fun W' pn xe tk' => (Classical.choose_spec (hb W').ex).1 ⟨(k, pn, xe), tk'⟩) (hh k)
    rw [hK k] at h
    exact h, fun B F H m σ ρ E Z s h eo => ?_⟩
  refine (Classical.choose_spec (hb (wNamed K i W Z (cl.map (clauseT i)))).ex).2 B F H m σ ρ _ Z s h ⟨eo.nx, eo.bk, eo.ct, eo.rt, fun cls od x σ' ρ' F' H' n' s' l hx he => ?_⟩
  exact clauses_ok eo s' l hx (by rw [s'.hs.len]; exact he.1) cl he.2
end
/-- a raised error of one's own -/
def RunM (W : WX) (tm : L2.St → Hp → XK → Prop) (m : TD Unit) : Prop := True
end DL


set_option maxRecDepth 100000
set_option maxHeartbeats 2000000
/-! DL7: own errors with fields: made and raised. Own work over HandS. -/
namespace DL
open PySem PySem.Spec PyProof.Rows L2

/-- what of an own class over ValueError (at CD) must be seen that CD.__init__(self, ..) may be asked -/
structure BaseInit (K : PySem.W.Frag) (CD : Addr) : Prop where
  ga : PySem.W.specialIn K (.ref CD) "__getattribute__" = some (some (.builtin "type.__getattribute__"))
  ty : PySem.W.typeIn K (.ref CD) = some (.type "type")
  rd : PySem.W.readsIn K CD (.type "type") = true
  fd : PySem.W.findCls K (.ref CD) (.type "type") "__init__" = some (.val (.builtin "ValueError.__init__"))
section
variable {X : Cx} {x : Str} {CD : Addr} {e : Expr} {es : List Expr} {ta : TA} {p1 p2 pos : Pos}
theorem pe_binit {pl : Sem Bool} (hg : Gl X x) (hm : X.mg x = some (.ref CD)) (T : BaseInit X.K CD) (ha : PA X (e :: es) ta) (hdb : (x == ("__debug__" : Str)) = false := by decide)
    (hc : eval (.Call (.Attribute (.Name x p1) "__init__" p2) (e :: es) [] pos) X.env = (do
      let ov ← eval (.Name x p1) X.env
      standAt p2.atName
      let (f, first) ← holding [ov] (getMethod ov "__init__" pl)
      callWith pos f first (backTo pos (starEach (e :: es) X.env)) (backToKw pos (keywordEach [] X.env))) := by rfl)
    (he : starEach (e :: es) X.env = (false, eval e X.env) :: starEach es X.env := by rfl) (hpl : (backTo pos (starEach es X.env)).any (·.1) = false := by rfl) :
    PE X (.Call (.Attribute (.Name x p1) "__init__" p2) (e :: es) [] pos) (tVeI X.K ta) := by
  refine ⟨fun pins s σ H Q I h => ?_⟩
  refine PySem.W.methodCall_KW (ld_glob I hg hm ?_ hdb) hc
  obtain ⟨m, fr⟩ := I.fr
  refine PySem.W.method_of_cls fr I.ok.mod.kin T.ga (PySem.W.cls_val fr I.ok.mod.kin T.ty T.rd T.fd (by decide +kernel) ?_)
  refine PyProof.Rows.callWith_method1 (thn (ha.run pos pins _ σ H _ (I.tok _) h) fun us s1 ⟨vs, H1, I1, r1, a, C, ws, ev, hl, T, ea, q⟩ => ?_) he hpl
  subst ev
  cases r1 with
  | @cons _ u0 _ ur ra rw' =>
    obtain rfl : u0 = Value.ref a := ra
    have hlen : ur.length ≤ sizeLine := by
      rw [← Paired.length rw', sizeLine_eq]
      omega
    exact oinit_ok T I1 ea hlen fun s' J => ⟨.non, H1, J, rfl, q⟩
end

/-- self.f = f, .. -/
def tFields (K : PySem.W.Frag) : List Str → Nat → TS
  | [], _ => tNext
  | [f], i => tOst K f (tVar 0) (tVar i)
  | f :: g :: r, i => tSeq (tOst K f (tVar 0) (tVar i)) (tFields K (g :: r) (i + 1))
def tInit (K : PySem.W.Frag) (msg : Str) (fs : List Str) : TS := tSeq (tDrop (tVeI K (tCons (tVar 0) (tCons (tC (.str msg)) tNil)))) (tFields K fs 1)
/-- the promise: the fields are put -/
def spInit (C : Addr) (fs : List Str) : Sp := fun vs H Q _ => ∃ a ws, vs = .ref a :: ws ∧ ws.length = fs.length ∧ H a = some (exo a C none) ∧ ∀ dx, H dx = none → dx ≠ a → Q .non (upd (upd H a (exo a C (some dx))) dx (exd dx ((fs.zip ws).reverse)))
theorem fields_old {K : PySem.W.Frag} {C a dx : Addr} (T : OexC K C) {D : Ends} (nda : a ≠ dx) : ∀ (fs : List Str) (ws : List V) (i : Nat) (σ : L2.St) (H : Hp) (acc : List (Str × V)), fs ≠ [] → (∀ f ∈ fs, PySem.W.findIn K (.ref C) f = some none) → fs.length = ws.length → σ[0]? = some (some (.ref a)) →
    (∀ j w, ws[j]? = some w → σ[i + j]? = some (some w)) → H a = some (exo a C (some dx)) → H dx = some (exd dx acc) → acc.length + fs.length ≤ 900 → D.nx σ (upd H dx (exd dx ((fs.zip ws).reverse ++ acc))) → tFields K fs i D σ H
  | [], _, _, _, _, _, h, _, _, _, _, _, _, _, _ => (h rfl).elim
  | [f], ws, i, σ, H, acc, _, hno, hl, h0, hs, ea, ed, hz, hq => by
    obtain ⟨w, rfl⟩ : ∃ w, ws = [w] := by
      match ws, hl with
      | [w], _ => exact ⟨w, rfl⟩
    exact ⟨w, hs 0 w rfl, .ref a, h0, a, C, rfl, T, hno f List.mem_cons_self, .inr ⟨dx, acc, ea, ed, by simp at hz; omega, hq⟩⟩
  | f :: g :: r, ws, i, σ, H, acc, _, hno, hl, h0, hs, ea, ed, hz, hq => by
    obtain ⟨w, ws', rfl⟩ : ∃ w ws', ws = w :: ws' := by
      match ws, hl with
      | w :: ws', _ => exact ⟨w, ws', rfl⟩
    refine ⟨w, hs 0 w rfl, .ref a, h0, a, C, rfl, T, hno f List.mem_cons_self, .inr ⟨dx, acc, ea, ed, by simp at hz; omega, ?_⟩⟩
    refine fields_old T nda (g :: r) ws' (i + 1) σ _ ((f, w) :: acc) (by simp) (fun f' hf => hno f' (List.mem_cons_of_mem _ hf)) (by simpa using hl) h0 (fun j w' e => by have := hs (j + 1) w' (by simpa using e); rw [← this]; congr 1; omega) (by rw [upd_ne nda]; exact ea) upd_same (by simp at hz ⊢; omega) ?_
    rw [upd_upd]
    have e : ((g :: r).zip ws').reverse ++ (f, w) :: acc = ((f :: g :: r).zip (w :: ws')).reverse ++ acc := by simp
    rw [e]
    exact hq

theorem run_init {K : PySem.W.Frag} {C a : Addr} (T : OexC K C) {D : Ends} {msg : Str} {fs : List Str} {ws : List V} {N : List Str} {H : Hp} {Q : VK} (hf : fs ≠ []) (hl : fs.length = ws.length) (hz : fs.length ≤ 800) (hno : ∀ f ∈ fs, PySem.W.findIn K (.ref C) f = some none) (ea : H a = some (exo a C none))
    (hD : ∀ σ H, Q .non H → D.nx σ H) (hq : ∀ dx, H dx = none → dx ≠ a → Q .non (upd (upd H a (exo a C (some dx))) dx (exd dx ((fs.zip ws).reverse)))) : tInit K msg fs D (L2.start N (.ref a :: ws)) H := by
  have h0 : (L2.start N (.ref a :: ws))[0]? = some (some (.ref a)) := rfl
  have hs : ∀ j w, ws[j]? = some w → (L2.start N (.ref a :: ws))[1 + j]? = some (some w) := fun j w e => by
    unfold L2.start
    have hj : j < ws.length := (List.getElem?_eq_some_iff.mp e).1
    rw [List.getElem?_append_left (by simp; omega), List.getElem?_map, Nat.add_comm 1 j, List.getElem?_cons_succ, e]
    rfl
  generalize L2.start N (.ref a :: ws) = σ at h0 hs
  refine ⟨_, h0, a, C, [.str msg], rfl, by simp, T, ea, ?_⟩
  show tFields K fs 1 D σ H
  match fs, ws, hf, hl with
  | [f], [w], _, _ =>
    refine ⟨w, hs 0 w rfl, .ref a, h0, a, C, rfl, T, hno f List.mem_cons_self, .inl ⟨ea, fun dx n ne => hD _ _ ?_⟩⟩
    have e : upd (upd H dx (exd dx [(f, w)])) a (exo a C (some dx)) = upd (upd H a (exo a C (some dx))) dx (exd dx [(f, w)]) := by
      funext b
      by_cases h1 : b = a
      · subst h1; rw [upd_same, upd_ne (Ne.symm ne), upd_same]
      · by_cases h2 : b = dx
        · subst h2; rw [upd_ne h1, upd_same, upd_same]
        · rw [upd_ne h1, upd_ne h2, upd_ne h2, upd_ne h1]
    rw [e]
    exact hq dx n ne
  | f :: g :: r, w :: ws', _, hl =>
    refine ⟨w, hs 0 w rfl, .ref a, h0, a, C, rfl, T, hno f List.mem_cons_self, .inl ⟨ea, fun dx n ne => ?_⟩⟩
    have e : upd (upd H dx (exd dx [(f, w)])) a (exo a C (some dx)) = upd (upd H a (exo a C (some dx))) dx (exd dx [(f, w)]) := by
      funext b
      by_cases h1 : b = a
      · subst h1; rw [upd_same, upd_ne (Ne.symm ne), upd_same]
      · by_cases h2 : b = dx
        · subst h2; rw [upd_ne h1, upd_same, upd_same]
        · rw [upd_ne h1, upd_ne h2, upd_ne h2, upd_ne h1]
    rw [e]
    refine fields_old T (Ne.symm ne) (g :: r) ws' 2 σ _ [(f, w)] (by simp) (fun f' hf' => hno f' (List.mem_cons_of_mem _ hf')) (by simpa using hl) h0 (fun j w' e => by have := hs (j + 1) w' (by simpa using e); rw [← this]; congr 1; omega) (by rw [upd_ne (Ne.symm ne), upd_same]) upd_same (by simp at hz ⊢; omega) (hD _ _ ?_)
    rw [upd_upd]
    have e2 : ((g :: r).zip ws').reverse ++ [(f, w)] = ((f :: g :: r).zip (w :: ws')).reverse := by simp
    rw [e2]
    exact hq dx n ne
/-- the promise of such an __init__ -/
theorem init_ok {P : Program} {w : World} {K : PySem.W.Frag} {mg : Str → Option Value} {base : Heap} {x qual msg : Str} {st : Stmt} {f C : Addr} {fd : FuncData} {N ps fs : List Str} {k : Nat} (F : Fun K x qual st f fd) (S : FnScope N ps (defScope st)) (T : OexC K C) (hf : fs ≠ []) (hps : ps.length = fs.length + 1) (hz : fs.length ≤ 800)
    (hno : ∀ f ∈ fs, PySem.W.findIn K (.ref C) f = some none)
    (hbody : ∀ (cdv : Value) (A : Around) (outer : List Env) (s : Shared) (H : Hp) (E : XK), PSs (cxOf (L2.CX P w) P w K mg base N qual (defScope st) f cdv A outer s H E) (defBody st) (tInit K msg fs)) :
    FnOk P w K mg base (L2.CX P w) (k + 1) f fd ps (spInit C fs) := by
  refine Fun.okX F S (fun vs H Q E h => ?_) fun cdv A outer s H vs Q E hr h => ?_
  · obtain ⟨a, ws, rfl, hl, _⟩ := h
    rw [hps, List.length_cons, hl]
  · obtain ⟨a, ws, rfl, hl, ea, hq⟩ := h
    exact ⟨_, hbody cdv A outer s H E, run_init T hf hl.symm hz hno ea (fun _ _ q => q) hq⟩

/-! ### raise -/
def raiseW (C : Addr) (fs : List Str) (t : TD (List D)) : TDS := fun E ρ n => t ρ (fun ds n' => ds.length = fs.length ∧ E.ex ⟨C, fs.reverse, ds.reverse⟩ ρ n') (fun x n' => E.ex x ρ n') n
theorem HasL.rev {F : Addr → Prop} {H : Hp} : ∀ {vs : List V} {ds : List D}, HasL F H vs ds → HasL F H vs.reverse ds.reverse
  | _, _, .nil => .nil
  | _, _, .cons h l => by
    rw [List.reverse_cons, List.reverse_cons]
    exact (HasL.rev l).snoc h
section
variable {ι : Type} {X : ι → Cx} {W : WX}
theorem DS.raise {x : Str} {C fI : Addr} {k : Nat} {fd : FuncData} {ps fs : List Str} {e : Expr} {es : List Expr} {t : TD (List D)} {p pos pos' : Pos} (hc : ∀ i, (X i).calm = true) (tk : ∀ i, Takes (X i) W) (T : ∀ i, OexC (X i).K C) (hf : fs ≠ []) (hz : fs.length ≤ 800)
    (iC : ∀ i, PySem.W.findIn (X i).K (.ref C) "__init__" = some (some (.ref fI))) (tI : ∀ i, PySem.W.typeIn (X i).K (.ref fI) = some (.type "function"))
    (F1 : ∀ i, FnOk (X i).prog (X i).w (X i).K (X i).mg (X i).base (L2.CX (X i).prog (X i).w) k fI fd ps (spInit C fs)) (hr : ∀ i, Room (k + 1) (X i).A) (hb : ∀ i, Binds (X i).K fd ps []) (hg : ∀ i, Gl (X i) x) (hm : ∀ i, (X i).mg x = some (.ref C)) (ha : DA X W (e :: es) t)
    (hdb : (x == ("__debug__" : Str)) = false := by decide) (he : ∀ i, starEach (e :: es) (X i).env = (false, eval e (X i).env) :: starEach es (X i).env := by intro _; rfl) (hpl : ∀ i, (backTo pos (starEach es (X i).env)).any (·.1) = false := by intro _; rfl) :
    DS X W (.Raise (some (.Call (.Name x p) (e :: es) [] pos)) none pos') (raiseW C fs t) := by
  obtain ⟨ta, pa, ra⟩ := ha
  refine ⟨_, fun i => ps_raise (hc i) (tk i) (pmk_oex (dvs := []) (T i) (iC i) (tI i) (F1 i) (hr i) (hb i) .nil passL (hg i) (hm i) (pa i) hdb (he i) (hpl i)), fun B F H n σ ρ E Z s h eo => ?_⟩
  refine ra F H n σ ρ _ _ _ s.hs h (fun vs ds F1 H1 n1 g1 hv hk => ?_) fun cls od xd F' H' n' g hx he' => eo.ex cls od xd σ ρ F' H' n' (s.mono g) g.later hx he'
  obtain ⟨hl, hk⟩ := hk
  have hlv : vs.length = fs.length := by rw [hv.len]; exact hl
  refine ⟨by omega, fun a ha => ?_⟩
  refine ⟨a, vs ++ [], rfl, by rw [List.append_nil]; exact hlv, upd_same, fun dx n ne => ?_⟩
  rw [List.append_nil]
  have hdx : H1 dx = none := by rw [upd_ne ne] at n; exact n
  refine ⟨rfl, dx, (fs.zip vs).reverse, ?_, upd_same, hdx, ?_⟩
  · rw [upd_ne (Ne.symm ne), upd_same]
  have eH : upd (del (upd (upd (upd H1 a (exo a C none)) a (exo a C (some dx))) dx (exd dx ((fs.zip vs).reverse))) a) dx (.xd ((fs.zip vs).reverse)) = upd H1 dx (.xd ((fs.zip vs).reverse)) := by
    funext b
    by_cases h2 : b = dx
    · subst h2; rw [upd_same, upd_same]
    · rw [upd_ne h2, upd_ne h2]
      by_cases h1 : b = a
      · subst h1; rw [del_same, ha]
      · rw [del_ne h1, upd_ne h2, upd_ne h1, upd_ne h1]
  rw [eH]
  have g2 : Grow F1 H1 n1 (plusF F1 dx) (upd H1 dx (.xd ((fs.zip vs).reverse))) n1 := .laid g1.pb hdx .xd
  have e1 : ((fs.zip vs).reverse).map (·.1) = fs.reverse := by rw [List.map_reverse, List.map_fst_zip (by omega)]
  have e2 : ((fs.zip vs).reverse).map (·.2) = vs.reverse := by rw [List.map_reverse, List.map_snd_zip (by omega)]
  exact eo.ex _ _ _ σ ρ _ _ n1 (s.mono (g1.trans g2)) (g1.trans g2).later ⟨rfl, dx, _, rfl, upd_same, e1, by rw [e2]; exact (hv.mono g2).rev⟩ hk
end
end DL


set_option maxRecDepth 100000
set_option maxHeartbeats 2000000
/-! DL8: lambdas without parameters, kept in rows and called later. Own work over HandS. -/
namespace DL
open PySem PySem.Spec PyProof.Rows L2

/-! ### cutting addresses out of the abstract heap, laying them in -/
def cut (l : List Addr) (H : Hp) : Hp := fun a => if a ∈ l then none else H a
def lay (l : List Addr) (f H : Hp) : Hp := fun a => if a ∈ l then f a else H a
theorem cut_in {l : List Addr} {H : Hp} {a : Addr} (h : a ∈ l) : cut l H a = none := if_pos h
theorem cut_out {l : List Addr} {H : Hp} {a : Addr} (h : a ∉ l) : cut l H a = H a := if_neg h
theorem lay_in {l : List Addr} {f H : Hp} {a : Addr} (h : a ∈ l) : lay l f H a = f a := if_pos h
theorem lay_out {l : List Addr} {f H : Hp} {a : Addr} (h : a ∉ l) : lay l f H a = H a := if_neg h
/-- each stands as one very object -/
def Fixed (l : List Addr) (f : Hp) : Prop := ∀ c ∈ l, ∃ o, f c = some (FixO c o)
theorem fixO_ok {P : Program} {w : World} {H : Hp} {h : Heap} {c : Addr} {o : Obj} (e : h.get? c = some o) : ObjOk P w H h c (FixO c o) := ⟨e, ⟨o, e⟩, fun _ _ z k => k _ z⟩
theorem fixO_at {P : Program} {w : World} {H : Hp} {h : Heap} {c : Addr} {o : Obj} (hok : HOk P w H h) (e : H c = some (FixO c o)) : h.get? c = some o := by
  have x : ObjOk P w H h c (.ext fun h => h.get? c = some o) := hok c _ e
  exact x.1
theorem fix_own {c x : Addr} {o : Obj} : FixO c o ≠ .own x := fun z => by
  have z' : HO.ext _ = HO.own x := z
  cases z'
theorem fix_tup {c : Addr} {o : Obj} {xs : List V} : FixO c o ≠ .tup xs := fun z => by
  have z' : HO.ext _ = HO.tup xs := z
  cases z'
theorem fix_lst {c : Addr} {o : Obj} {xs : List V} : FixO c o ≠ .lst xs := fun z => by
  have z' : HO.ext _ = HO.lst xs := z
  cases z'
theorem fix_dK {c : Addr} {o : Obj} {xs : List (Key × V)} : FixO c o ≠ .dK xs := fun z => by
  have z' : HO.ext _ = HO.dK xs := z
  cases z'
theorem fix_ins {c C d : Addr} {o : Obj} {xs : List (Str × V)} : FixO c o ≠ .ins C d xs := fun z => by
  have z' : HO.ext _ = HO.ins C d xs := z
  cases z'
theorem fix_frz {c : Addr} {o o' : Obj} {u : HO} : FixO c o ≠ .frz o' u := fun z => by
  have z' : HO.ext _ = HO.frz o' u := z
  cases z'
theorem fix_tbl {c : Addr} {o : Obj} {ps : Array Value} : FixO c o ≠ .tbl ps := fun z => by
  have z' : HO.ext _ = HO.tbl ps := z
  cases z'
theorem Fixed.out {l : List Addr} {H : Hp} (fx : Fixed l H) {b : Addr} {u : HO} (e : H b = some u) (n : ∀ c o, FixO c o ≠ u) : b ∉ l := fun hb => by
  obtain ⟨o, e2⟩ := fx b hb
  rw [e2] at e
  exact n b o (Option.some.inj e)
section
variable {P : Program} {w : World} {l : List Addr} {H H' f : Hp} {h h' : Heap} {fs : List Addr}
theorem hok_cut (fx : Fixed l H) (ok : HOk P w H h) : HOk P w (cut l H) h := fun b u e => by
  by_cases hb : b ∈ l
  · rw [cut_in hb] at e; cases e
  · rw [cut_out hb] at e
    exact (ok b u e).stay (fun _ _ _ q => q) (fun c q => by rw [cut_out (fx.out q fun _ _ => fix_own)]; exact q) fun c xs q => by rw [cut_out (fx.out q fun _ _ => fix_tup)]; exact q
theorem hok_lay (fx : Fixed l f) (hn : ∀ c ∈ l, H c = none) (hg : ∀ c ∈ l, ∀ o, f c = some (FixO c o) → h.get? c = some o) (ok : HOk P w H h) : HOk P w (lay l f H) h := fun b u e => by
  by_cases hb : b ∈ l
  · rw [lay_in hb] at e
    obtain ⟨o, e2⟩ := fx b hb
    rw [e2] at e
    cases e
    exact fixO_ok (hg b hb o e2)
  · rw [lay_out hb] at e
    have off : ∀ {c : Addr} {v : HO}, H c = some v → c ∉ l := fun q z => by rw [hn _ z] at q; cases q
    exact (ok b u e).stay (fun _ _ _ q => q) (fun c q => by rw [lay_out (off q)]; exact q) fun c xs q => by rw [lay_out (off q)]; exact q
/-- H bears fixed ones at l; what ran ran without them; they are laid in again -/
theorem un_lay (fx : Fixed l H) (ok : HOk P w H h) (hf : ∀ c ∈ l, c ∉ fs) (un : Un fs [] (cut l H) H' h h') (ok' : HOk P w H' h') : Un fs [] H (lay l H H') h h' ∧ HOk P w (lay l H H') h' ∧ ∀ c ∈ l, H' c = none := by
  have at_ : ∀ c ∈ l, ∃ o, H c = some (FixO c o) ∧ h.get? c = some o := fun c hc => let ⟨o, e⟩ := fx c hc; ⟨o, e, fixO_at ok e⟩
  have hn : ∀ c ∈ l, H' c = none := fun c hc => let ⟨o, _, e⟩ := at_ c hc; un.free c o e (cut_in hc) (by simp)
  have off : ∀ {b : Addr}, H b = none → b ∉ l := fun n z => by obtain ⟨o, e, _⟩ := at_ _ z; rw [n] at e; cases e
  refine ⟨⟨fun b o e n hb hx => un.keep b o e (by rw [cut_out (off n)]; exact n) hb hx, fun b o e n hb hx => un.slot b o e (by rw [cut_out (off n)]; exact n) hb hx, fun b o e n hx => by rw [lay_out (off n)]; exact un.free b o e (by rw [cut_out (off n)]; exact n) hx,
    un.there, fun b xs e => ?_, fun b o u e => ?_, fun b ps e => ?_⟩, hok_lay fx hn (fun c hc o e => ?_) ok', hn⟩
  · have hb := fx.out e fun _ _ => fix_tup
    rw [lay_out hb]
    exact un.tups b xs (by rw [cut_out hb]; exact e)
  · have hb := fx.out e fun _ _ => fix_frz
    rw [lay_out hb]
    exact un.frzs b o u (by rw [cut_out hb]; exact e)
  · have hb := fx.out e fun _ _ => fix_tbl
    rw [lay_out hb]
    exact un.tbls b ps (by rw [cut_out hb]; exact e)
  · exact un.keep c o (fixO_at ok e) (cut_in hc) (hf c hc) (by simp)
/-- the same into the ground of an exception -/
theorem ub_lay {B : Heap} (fx : Fixed l H) (ok : HOk P w H h) (hf : ∀ c ∈ l, c ∉ fs) (ub : UB fs (cut l H) H' h B h') (ok' : HOk P w H' B) : UB fs H (lay l H H') h B h' ∧ HOk P w (lay l H H') B ∧ (∀ c ∈ l, H' c = none) ∧ ∀ c ∈ l, ∃ o, B.get? c = some o := by
  have at_ : ∀ c ∈ l, ∃ o, H c = some (FixO c o) ∧ h.get? c = some o := fun c hc => let ⟨o, e⟩ := fx c hc; ⟨o, e, fixO_at ok e⟩
  have hn : ∀ c ∈ l, H' c = none := fun c hc => let ⟨o, _, e⟩ := at_ c hc; ub.free c o e (cut_in hc)
  have off : ∀ {b : Addr}, H b = none → b ∉ l := fun n z => by obtain ⟨o, e, _⟩ := at_ _ z; rw [n] at e; cases e
  refine ⟨⟨fun b o e n hb => ub.keep b o e (by rw [cut_out (off n)]; exact n) hb, fun b o e hb => ub.slot b o e hb, fun b o e n => by rw [lay_out (off n)]; exact ub.free b o e (by rw [cut_out (off n)]; exact n),
    ub.there, fun b xs e => ?_, fun b o u e => ?_, fun b ps e => ?_⟩, hok_lay fx hn (fun c hc o e => ?_) ok', hn, fun c hc => ?_⟩
  · have hb := fx.out e fun _ _ => fix_tup
    rw [lay_out hb]
    exact ub.tups b xs (by rw [cut_out hb]; exact e)
  · have hb := fx.out e fun _ _ => fix_frz
    rw [lay_out hb]
    exact ub.frzs b o u (by rw [cut_out hb]; exact e)
  · have hb := fx.out e fun _ _ => fix_tbl
    rw [lay_out hb]
    exact ub.tbls b ps (by rw [cut_out hb]; exact e)
  · exact ub.keep c o (fixO_at ok e) (cut_in hc) (hf c hc)
  · obtain ⟨o, e1, e2⟩ := at_ c hc
    exact ⟨o, ub.keep c o e2 (cut_in hc) (hf c hc)⟩
/-- H knows nothing of l; what ran ran with fixed ones there; they are cut out again -/
theorem un_cut (hn : ∀ c ∈ l, H c = none) (fx : Fixed l f) (hg : ∀ c ∈ l, ∀ o, f c = some (FixO c o) → h.get? c = some o) (un : Un fs [] (lay l f H) H' h h') (ok' : HOk P w H' h') (hk : ∀ c ∈ l, H' c = f c) : Un fs [] H (cut l H') h h' ∧ HOk P w (cut l H') h' := by
  have off : ∀ {b : Addr} {u : HO}, H b = some u → b ∉ l := fun q z => by rw [hn _ z] at q; cases q
  have there : ∀ c ∈ l, ∀ o, h.get? c = some o → h'.get? c = some o := fun c hc o e => by
    obtain ⟨o2, e2⟩ := fx c hc
    have e3 := hg c hc o2 e2
    rw [e] at e3
    cases e3
    exact fixO_at ok' (by rw [hk c hc]; exact e2)
  have fx' : Fixed l H' := fun c hc => by rw [hk c hc]; exact fx c hc
  refine ⟨⟨fun b o e n hb hx => ?_, fun b o e n hb hx => ?_, fun b o e n hx => ?_, un.there, fun b xs e => ?_, fun b o u e => ?_, fun b ps e => ?_⟩, hok_cut fx' ok'⟩
  · by_cases hl : b ∈ l
    · exact there b hl o e
    · exact un.keep b o e (by rw [lay_out hl]; exact n) hb hx
  · by_cases hl : b ∈ l
    · exact ⟨o.slots, there b hl o e⟩
    · exact un.slot b o e (by rw [lay_out hl]; exact n) hb hx
  · by_cases hl : b ∈ l
    · exact cut_in hl
    · rw [cut_out hl]
      exact un.free b o e (by rw [lay_out hl]; exact n) hx
  · rw [cut_out (off e)]
    exact un.tups b xs (by rw [lay_out (off e)]; exact e)
  · rw [cut_out (off e)]
    exact un.frzs b o u (by rw [lay_out (off e)]; exact e)
  · rw [cut_out (off e)]
    exact un.tbls b ps (by rw [lay_out (off e)]; exact e)
end

/-! ### data without the cut ones -/
mutual
/-- no lambda, no pen, no script within -/
def plainD : D → Bool
  | .non => true
  | .bl _ => true
  | .int _ => true
  | .str _ => true
  | .tup ds => plainL ds
  | .lst ds => plainL ds
  | .dic _ ds => plainL ds
  | .obj _ _ ds => plainL ds
  | .exc _ _ _ => false
  | .pen => false
  | .clo _ _ _ => false
  | .fnA _ => true
  | .scr _ _ _ => false
def plainL : List D → Bool
  | [] => true
  | d :: ds => plainD d && plainL ds
end
section
variable {l : List Addr} {F F' : Addr → Prop} {H H' : Hp} {n n' : Nat}
abbrev cutF (l : List Addr) (F : Addr → Prop) : Addr → Prop := fun a => F a ∧ a ∉ l
abbrev layF (l : List Addr) (F : Addr → Prop) : Addr → Prop := fun a => F a ∨ a ∈ l
mutual
theorem Has.cut (fx : Fixed l H) : ∀ {v : V} {d : D}, Has F H v d → plainD d = true → Has (cutF l F) (DL.cut l H) v d
  | _, _, .non, _ => .non
  | _, _, .bl b, _ => .bl b
  | _, _, .int i, _ => .int i
  | _, _, .str x, _ => .str x
  | _, _, .tup f h k, e => have o := fx.out h fun _ _ => fix_tup; .tup ⟨f, o⟩ ((cut_out o).trans h) (HasL.cut fx k (by unfold plainD at e; exact e))
  | _, _, .lst f h k, e => have o := fx.out h fun _ _ => fix_lst; .lst ⟨f, o⟩ ((cut_out o).trans h) (HasL.cut fx k (by unfold plainD at e; exact e))
  | _, _, .dic f h q z k, e => have o := fx.out h fun _ _ => fix_dK; .dic ⟨f, o⟩ ((cut_out o).trans h) q z (HasL.cut fx k (by unfold plainD at e; exact e))
  | _, _, .obj f h z k, e => have o := fx.out h fun _ _ => fix_ins; .obj ⟨f, o⟩ ((cut_out o).trans h) z (HasL.cut fx k (by unfold plainD at e; exact e))
  | _, _, .pen _ _ _ _ _ _, e => by unfold plainD at e; cases e
  | _, _, .clo0 _ _ _ _, e => by unfold plainD at e; cases e
  | _, _, .clo1 _ _ _ _ _ _ _, e => by unfold plainD at e; cases e
  | _, _, .fnA a, _ => .fnA a
  | _, _, .scr _ _, e => by unfold plainD at e; cases e
theorem HasL.cut (fx : Fixed l H) : ∀ {vs : List V} {ds : List D}, HasL F H vs ds → plainL ds = true → HasL (cutF l F) (DL.cut l H) vs ds
  | _, _, .nil, _ => .nil
  | _, _, .cons h k, e => by
    unfold plainL at e
    obtain ⟨e1, e2⟩ := Bool.and_eq_true_iff.mp e
    exact .cons (Has.cut fx h e1) (HasL.cut fx k e2)
end
/-- a code object is no cell -/
theorem cod_out {P : Program} {w : World} {h : Heap} {q : Str} {c : Addr} (ok : HOk P w H h) (hl : ∀ c ∈ l, ∃ o u, H c = some (FixO c o) ∧ o.data = .cell (some u)) (e : H c = some (CodO c q)) : c ∉ l := fun z => by
  obtain ⟨o, u, e1, e2⟩ := hl c z
  have a := fixO_at ok e1
  have x : ObjOk P w H h c (.ext fun h => ∃ (oc : Obj) (vs : Array Value) (t : Tok), h.get? c = some oc ∧ oc.data = .fields vs ∧ vs[1]? = some (.str q t)) := ok c _ e
  obtain ⟨⟨oc, vs, t, b1, b2, _⟩, _⟩ := x
  rw [a] at b1
  cases b1
  rw [e2] at b2
  cases b2
theorem PenB.cut {P : Program} {w : World} {h : Heap} (pb : PenB F H n) (ok : HOk P w H h) (hl : ∀ c ∈ l, ∃ o u, H c = some (FixO c o) ∧ o.data = .cell (some u)) : PenB (cutF l F) (DL.cut l H) n where
  ct := fun a c p e => by
    by_cases ha : a ∈ l
    · rw [cut_in ha] at e; cases e
    · rw [cut_out ha] at e; exact pb.ct a c p e
  dom := fun a f => by
    rw [cut_out f.2]
    exact pb.dom a f.1
  tb := fun Q ps e => by
    by_cases ha : Q ∈ l
    · rw [cut_in ha] at e; cases e
    · rw [cut_out ha] at e
      obtain ⟨t1, t2⟩ := pb.tb Q ps e
      exact ⟨t1, fun pos cv z => let ⟨c, e1, f, e2⟩ := t2 pos cv z; ⟨c, e1, ⟨f, cod_out ok hl e2⟩, (cut_out (cod_out ok hl e2)).trans e2⟩⟩
theorem Grow.lay (fx : Fixed l H) (hF : ∀ c ∈ l, F c) (hn : ∀ c ∈ l, H' c = none) (g : Grow (cutF l F) (DL.cut l H) n F' H' n') : Grow F H n (layF l F') (DL.lay l H H') n' where
  keep := fun a o e => by
    by_cases ha : a ∈ l
    · rw [lay_in ha]; exact .inl e
    · rw [lay_out ha]; exact g.keep a o (by rw [cut_out ha]; exact e)
  sub := fun a f => by
    by_cases ha : a ∈ l
    · exact .inr ha
    · exact .inl (g.sub a ⟨f, ha⟩)
  new := fun a f => by
    by_cases ha : a ∈ l
    · exact .inl (hF a ha)
    · rcases g.new a (f.resolve_right ha) with z | z
      · exact .inl z.1
      · rw [cut_out ha] at z; exact .inr z
  pb := ⟨fun a c p e => by
    by_cases ha : a ∈ l
    · rw [lay_in ha] at e
      exact absurd ha (fx.out e fun _ _ => fix_dK)
    · rw [lay_out ha] at e; exact g.pb.ct a c p e, fun a f => by
    by_cases ha : a ∈ l
    · rw [lay_in ha]
      obtain ⟨o, e⟩ := fx a ha
      exact ⟨_, e⟩
    · rw [lay_out ha]; exact g.pb.dom a (f.resolve_right ha), fun Q ps e => by
    by_cases ha : Q ∈ l
    · rw [lay_in ha] at e
      exact absurd ha (fx.out e fun _ _ => fix_tbl)
    · rw [lay_out ha] at e
      refine (g.pb.tb Q ps e).mono (fun _ => .inl) fun c f q => ?_
      rw [lay_out (fun z => by rw [hn c z] at q; cases q)]
      exact q⟩
  le := g.le
theorem later_lay (hn : ∀ c ∈ l, H' c = none) : Later F' H' n (layF l F') (DL.lay l H H') n := ⟨fun a o _ e => .inl (by rw [lay_out (fun z => by rw [hn a z] at e; cases e)]; exact e), fun _ => .inl, Nat.le_refl _⟩
end
theorem HasX.later {F F' : Addr → Prop} {H H' : Hp} {n n' : Nat} (g : Later F H n F' H' n') {cls : Value} {od : Option Addr} {x : XD} (h : HasX F H cls od x) (hk : ∀ a fs, H a = some (.xd fs) → H' a = some (.xd fs)) : HasX F' H' cls od x := by
  obtain ⟨e1, d, fs, e2, hd, e3, hl⟩ := h
  exact ⟨e1, d, fs, e2, hk d fs hd, e3, hl.later g⟩

/-! ### a lambda called -/
abbrev cloEnv (r : CloR) (L f : Addr) : Env := PySem.W.envX r.qual r.scope L f (.ref r.code) r.cl
/-- the context of a lambda's body; N: the captured names -/
def cloCx (P : Program) (w : World) (K : PySem.W.Frag) (mg : Str → Option Value) (base : Heap) (N : List Str) (r : CloR) (A : Around) (outer : List Env) (s : Shared) (H : Hp) (E : XK) (f : Addr) : Cx where
  prog := P
  w := w
  K := K
  mg := mg
  base := base
  A := A.deeper (cloEnv r s.heap.objs.size f)
  N := N
  s_0 := s
  H_0 := H
  env := cloEnv r s.heap.objs.size f
  outer := outer
  stack := cloEnv r s.heap.objs.size f :: outer
  ex := []
  fn := fun _ => false
  calm := true
  pn := []
  xe := fun e s' => wpAny (model P w) (A.deeper (cloEnv r s.heap.objs.size f)) (leaving (cloEnv r s.heap.objs.size f) e) (fun _ s'' => L2.CX P w outer H s E e s'') (fun e' s'' => L2.CX P w outer H s E e' s'') s'
/-- what a lambda's scope must be; N: its captured names, in the order of its cells -/
structure CloScope (N : List Str) (r : CloR) : Prop where
  kind : r.scope.kind = .function
  co : r.scope.isCoroutine = false
  gen : r.scope.isGenerator = false
  own : ∀ y ∈ r.scope.names, y.2 ≠ .local ∧ y.2 ≠ .cell
  names : r.cl.map (·.1) = N
  nodup : N.Nodup
  free : ∀ y, r.scope.names.lookup y = some .free → y ∈ N
  inj : ∀ x y c, r.cl.lookup x = some c → r.cl.lookup y = some c → x = y
  bind : bindArgs (PySem.W.kla_fn "<lambda>" r.qual r.params r.body r.scope r.cl r.pm (.ref r.code) r.ctv) ⟨[], []⟩ = pure []
theorem lookup_of_ix {cl : List (Str × Addr)} (nd : (cl.map (·.1)).Nodup) : ∀ {i : Nat} {y : Str} {c : Addr}, cl[i]? = some (y, c) → cl.lookup y = some c := by
  induction cl with
  | nil => intro i y c e; simp at e
  | cons p cl ih =>
    obtain ⟨z, d⟩ := p
    intro i y c e
    rw [List.map_cons, List.nodup_cons] at nd
    cases i with
    | zero =>
      simp at e
      obtain ⟨rfl, rfl⟩ := e
      simp [List.lookup]
    | succ i =>
      have e : cl[i]? = some (y, c) := by simpa using e
      have hy : y ∈ cl.map (·.1) := List.mem_map.mpr ⟨_, List.mem_of_getElem? e, rfl⟩
      have hne : y ≠ z := fun h => nd.1 (h ▸ hy)
      have hb : (y == z) = false := by simpa using hne
      simp only [List.lookup, hb]
      exact ih nd.2 e
theorem ix_of_lookup {cl : List (Str × Addr)} : ∀ {y : Str} {c : Addr}, cl.lookup y = some c → ∃ i : Nat, cl[i]? = some (y, c) := by
  intro y c e
  have h := PySem.mem_of_lookup e
  obtain ⟨i, hi, e2⟩ := List.mem_iff_getElem.mp h
  exact ⟨i, by rw [List.getElem?_eq_getElem hi, e2]⟩
section
variable {P : Program} {w : World} {K : PySem.W.Frag} {mg : Str → Option Value} {base : Heap} {N : List Str} {r : CloR} {A : Around} {outer : List Env} {s : Shared} {H : Hp} {E : XK} {f : Addr} {vs : List V}
/-- entered -/
theorem clo_start (S : CloScope N r) (e0 : Env0 P w K mg base A outer s H) (hd : A.handled = none) (hl : vs.length = r.cl.length) (hc : ∀ p ∈ r.cl.zip vs, ∃ u o, RelV p.2 u ∧ o.data = .cell (some u) ∧ s.heap.get? p.1.2 = some o ∧ H p.1.2 = none)
    {h₁ : Heap} {tk : Nat} (hns : h₁.Ns s.heap.objs.size fun y => ([] : List (Str × Value)).reverse.lookup y) (kp : ∀ b o, s.heap.get? b = some o → h₁.get? b = some o) :
    Inv (cloCx P w K mg base N r A outer s H E f) [] (vs.map some) H { s with heap := h₁, toks := tk } := by
  have at_ : ∀ {y : Str} {c : Addr}, r.cl.lookup y = some c → ∃ (i : Nat) (v : V), N[i]? = some y ∧ vs[i]? = some v ∧ ∃ u o, RelV v u ∧ o.data = .cell (some u) ∧ s.heap.get? c = some o ∧ H c = none := fun {y c} e => by
    obtain ⟨i, e1⟩ := ix_of_lookup e
    have hi : i < r.cl.length := (List.getElem?_eq_some_iff.mp e1).1
    have hv : vs[i]? = some vs[i] := List.getElem?_eq_getElem (by omega)
    have hz : ((y, c), vs[i]) ∈ r.cl.zip vs := List.mem_of_getElem? (i := i) (by rw [List.getElem?_zip_eq_some]; exact ⟨e1, hv⟩)
    exact ⟨i, vs[i], by rw [← S.names, List.getElem?_map, e1]; rfl, hv, hc _ hz⟩
  have noA : ∀ b : Addr, b ∉ (cloCx P w K mg base N r A outer s H E f).ex := fun b z => absurd (show b ∈ ([] : List Addr) from z) (by simp)
  have look : ∀ {y}, r.scope.names.lookup y = some .free → ∃ c, r.cl.lookup y = some c := fun {y} h => by
    have hy := S.free y h
    rw [← S.names] at hy
    obtain ⟨⟨y', c⟩, hm, e⟩ := List.mem_map.mp hy
    have e : y' = y := e
    subst e
    obtain ⟨i, hi, e2⟩ := List.mem_iff_getElem.mp hm
    exact ⟨c, lookup_of_ix (S.names ▸ S.nodup) (i := i) (by rw [List.getElem?_eq_getElem hi, e2])⟩
  refine ⟨⟨e0.mod, S.kind, rfl, rfl, Nat.le_refl _, S.inj, fun y hy => ?_, fun y c z _ => ?_, fun _ => hd, Around.frames_deeper e0.frames, .inr ⟨rfl, rfl⟩, fun b z => absurd z (noA b), e0.bs, e0.bsz, fun b _ _ => noA b,
      fun b z => absurd z (noA b), e0.funs, e0.frf⟩,
    rfl, e0.bare, Un.kept kp, ⟨_, hns, fun i y v e1 e2 e3 => ?_⟩, fun y c e => ?_, e0.hok.fresh (Nat.le_refl _), fun y c e => ?_, fun q hq => absurd (show q ∈ ([] : List (Addr × Obj)) ++ [] from hq) (by simp), e0.hok.kept kp, ?_⟩
  · have hy : r.scope.names.lookup y = some .cell ∨ r.scope.names.lookup y = some .free := hy
    rcases hy with hy | hy
    · exact absurd rfl (S.own _ (PySem.mem_of_lookup hy)).2
    · exact look hy
  · have z : false = true := z
    cases z
  · have e3 : Vis r.scope y := e3
    rcases e3 with k | k | k
    · exact absurd rfl (S.own _ (PySem.mem_of_lookup k)).1
    · exact absurd rfl (S.own _ (PySem.mem_of_lookup k)).2
    · obtain ⟨c, hc1⟩ := look k
      obtain ⟨j, v', n1, v1, u, o, ru, hd1, hg, hn⟩ := at_ hc1
      have hij : i = j := nodup_ix S.nodup e1 n1
      subst hij
      rw [List.getElem?_map, v1] at e2
      cases e2
      exact ⟨u, ru, .inr ⟨.inr k, c, hc1, o, kp _ _ hg, hd1⟩⟩
  · obtain ⟨_, _, _, _, u, o, _, hd1, hg, _⟩ := at_ e
    exact ⟨_, o, kp _ _ hg, hd1⟩
  · obtain ⟨_, _, _, _, u, o, _, hd1, hg, hn⟩ := at_ e
    exact hn
  · show (vs.map some).length = N.length
    rw [List.length_map, hl, ← S.names, List.length_map]
end

/-- what a lambda promises -/
def CloSp (P : Program) (w : World) (K : PySem.W.Frag) (mg : Str → Option Value) (base : Heap) (k : Nat) (r : CloR) (ds : List D) (m : Wm D) : Prop :=
  ∀ (A : Around) (outer : List Env) (s : Shared) (H : Hp) (F : Addr → Prop) (n : Nat) (f : Addr) (Kd : D → Nat → Prop) (Xd : XD → Nat → Prop) (Q : VK) (E : XK), A.guards = some [] → Room k A → Env0 P w K mg base A outer s H → PenB F H n → Has F H (.ref f) (.clo true r ds) → m Kd Xd n →
    (∀ v d F' H' n', Grow F H n F' H' n' → Has F' H' v d → Kd d n' → Q v H') → (∀ cls od xd F' H' n', Grow F H n F' H' n' → HasX F' H' cls od xd → Xd xd n' → E cls od H') → codeAny (model P w) A (.call (.ref f) ⟨[], []⟩) (CR (L2.CX P w) outer P w H s Q E) s
theorem clo_ok {P : Program} {w : World} {K : PySem.W.Frag} {mg : Str → Option Value} {base : Heap} {N : List Str} {r : CloR} {k : Nat} {ds : List D} {t : TD D} (S : CloScope N r) (hp : plainL ds = true)
    (hbody : ∀ (A : Around) (outer : List Env) (s : Shared) (H : Hp) (E : XK) (f : Addr), A.guards = some [] → Room k (A.deeper (cloEnv r s.heap.objs.size f)) → DE (fun _ : Unit => cloCx P w K mg base N r A outer s H E f) (bW E) r.body t) :
    CloSp P w K mg base (k + 1) r ds (t (ds.map fun d => some (.d d))) := by
  intro A outer s H F n f Kd Xd Q E hg hr e0 pb hf hm hq hx
  cases hf with
  | @clo1 _ _ vs _ Ff hf Fc hco hl hs hds =>
  -- the cells, cut out
  obtain ⟨l, hll⟩ : ∃ l, l = r.cl.map (·.2) := ⟨_, rfl⟩
  have inl : ∀ c ∈ l, ∃ p ∈ r.cl.zip vs, p.1.2 = c := fun c hc => by
    rw [hll] at hc
    obtain ⟨p, hp, e⟩ := List.mem_map.mp hc
    obtain ⟨i, hi, e2⟩ := List.mem_iff_getElem.mp hp
    have hv : vs[i]? = some vs[i] := List.getElem?_eq_getElem (by omega)
    exact ⟨(p, vs[i]), List.mem_of_getElem? (i := i) (by rw [List.getElem?_zip_eq_some]; exact ⟨by rw [List.getElem?_eq_getElem hi, e2], hv⟩), e⟩
  have hcell : ∀ c ∈ l, F c ∧ ∃ o u, H c = some (FixO c o) ∧ o.data = .cell (some u) := fun c hc => by
    obtain ⟨p, hp, rfl⟩ := inl c hc
    obtain ⟨a, u, o, _, dd, e⟩ := hs p hp
    exact ⟨a, o, u, e, dd⟩
  have fx : Fixed l H := fun c hc => let ⟨_, o, _, e, _⟩ := hcell c hc; ⟨o, e⟩
  have hF : ∀ c ∈ l, F c := fun c hc => (hcell c hc).1
  have hfr : ∀ c ∈ l, c ∉ frs outer := fun c hc z => by
    obtain ⟨o, e⟩ := fx c hc
    rw [e0.frf c z] at e
    cases e
  have hnb : ∀ c ∈ l, base.get? c = none := fun c hc => by
    cases q : base.get? c with
    | none => rfl
    | some o =>
      obtain ⟨o2, e⟩ := fx c hc
      rw [(e0.bs c o q).2] at e
      cases e
  have e1 : Env0 P w K mg base A outer s (cut l H) := ⟨e0.frames, e0.mod, fun b o e => ⟨(e0.bs b o e).1, by
    by_cases hb : b ∈ l
    · exact cut_in hb
    · rw [cut_out hb]; exact (e0.bs b o e).2⟩, e0.bsz, e0.funs, fun b hb => by
    by_cases hbl : b ∈ l
    · exact cut_in hbl
    · rw [cut_out hbl]; exact e0.frf b hb, hok_cut fx e0.hok, e0.bare⟩
  have hof : s.heap.get? f = some r.obj := fixO_at e0.hok hf
  have hcode : s.heap.CodeRec (.ref r.code) r.qual := by
    have x : ObjOk P w H s.heap r.code (.ext fun h => ∃ (oc : Obj) (vs : Array Value) (t : Tok), h.get? r.code = some oc ∧ oc.data = .fields vs ∧ vs[1]? = some (.str r.qual t)) := e0.hok _ _ hco
    obtain ⟨⟨oc, vs, t, a, b, c⟩, _⟩ := x
    exact ⟨r.code, oc, vs, t, rfl, a, b, c⟩
  refine PySem.W.kla_callFunE hr.depth hof rfl S.co S.gen rfl hcode ?_
  rw [S.bind]
  refine wpAny_pure (wpAny_newFunctionEnv (fun y hy => (S.own y hy).2) (fun y hy => absurd hy (by simp)) (fun h₁ hns hsb => ⟨(e0.mod.nolimit.keeps fun b o e => (e0.bs b o e).1).fresh _ hsb, ?_⟩) S.kind)
  show codeAny _ _ (.expr r.body (cloEnv r s.heap.objs.size f)) _ _
  have kp : ∀ b o, s.heap.get? b = some o → h₁.get? b = some o := fun b o e => hsb.extBut b o (Nat.ne_of_lt (Heap.lt_size e)) (Heap.get?_push_of_some _ e)
  let E' : XK := fun cls od H' => ∃ xd F' n', Grow (cutF l F) (cut l H) n F' H' n' ∧ HasX F' H' cls od xd ∧ Xd xd n'
  have J : Inv (cloCx P w K mg base N r A outer s (cut l H) E' f) [] (vs.map some) (cut l H) { s with heap := h₁, toks := s.toks + ([] : List (Str × Value)).length } :=
    clo_start S e1 hr.hd hl (fun p hp => let ⟨_, u, o, ru, dd, e⟩ := hs p hp; ⟨u, o, ru, dd, fixO_at e0.hok e, cut_in (by rw [hll]; exact List.mem_map.mpr ⟨p.1, (List.of_mem_zip hp).1, rfl⟩)⟩) hns kp
  obtain ⟨te, pe, re⟩ := hbody A outer s (cut l H) E' f hg (hr.deeper _)
  have hps : HasS (cutF l F) (cut l H) n (vs.map some) (ds.map fun d => some (.d d)) := ⟨pb.cut e0.hok (fun c hc => (hcell c hc).2), by rw [List.length_map, List.length_map, hds.len], fun i x e => by
    rw [List.getElem?_map] at e
    obtain ⟨d, e1, e2⟩ := Option.map_eq_some_iff.mp e
    cases e2
    obtain ⟨v, e3, hv⟩ := (hds.cut fx hp).get e1
    exact ⟨v, by rw [List.getElem?_map, e3]; rfl, hv⟩⟩
  have ht : te (vs.map some) (cut l H) (fun v H' => ∃ d F' n', Grow (cutF l F) (cut l H) n F' H' n' ∧ Has F' H' v d ∧ Kd d n') := re _ _ n _ _ Kd Xd _ hps hm (fun v d F' H' n' g hv hk => ⟨d, F', n', g, hv, hk⟩) fun cls od xd F' H' n' g hx' hk => ⟨xd, F', n', g, hx', hk⟩
  have fin : ∀ {er : Value} {s' : Shared}, L2.CX P w outer (cut l H) s E' er s' → L2.CX P w outer H s E er s' := fun {er s'} z => by
    obtain ⟨a, B, H', cls, d, ea, fl, hokB, ub, na, os, ag, xd, F', n', g, hx', hk⟩ := z
    obtain ⟨ub2, hok2, hn, hB⟩ := ub_lay fx e0.hok hfr ub hokB
    have hal : a ∉ l := fun z => by
      obtain ⟨o, e⟩ := hB a z
      rw [fl.2.1] at e
      cases e
    refine ⟨a, B, lay l H H', cls, d, ea, fl, hok2, ub2, by rw [lay_out hal]; exact na, os, ag, ?_⟩
    exact hx cls d xd _ _ n' (g.lay fx hF hn) (hx'.later (later_lay (n := n') hn) fun a fs e => by rw [lay_out (fun z => by rw [hn a z] at e; cases e)]; exact e) hk
  refine PySem.W.kla_codeExpr (wpAny_mono ((pe ()).run [] _ _ (cut l H) _ J ht) (fun v s' hq' => ?_) fun e s' z => wpAny_mono (show wpAny _ _ _ _ _ _ from z) (fun _ s'' z => fin z) fun _ s'' z => fin z)
  obtain ⟨v', H', J', rv, d, F', n', g, hv, hk⟩ := hq'
  obtain ⟨un2, hok2, hn⟩ := un_lay fx e0.hok hfr J'.base J'.hok
  exact ⟨v', lay l H H', J'.os, J'.bare, un2, hok2, rv, hq v' d _ _ n' (g.lay fx hF hn) (hv.later (later_lay (n := n') hn)) hk⟩
end DL


set_option maxRecDepth 100000
set_option maxHeartbeats 2000000
/-! DL9: lambdas made, rows of them handed on, called. Own work over HandS. -/
namespace DL
open PySem PySem.Spec PyProof.Rows L2

/-! ### work() -/
def cloW (P : Program) (w : World) (K : PySem.W.Frag) (mg : Str → Option Value) (base : Heap) (k : Nat) : D → Wm D
  | .clo true r ds => fun Kd Xd n => ∃ m : Wm D, CloSp P w K mg base k r ds m ∧ m Kd Xd n
  | _ => Wm.fail
section
variable {ι : Type} {X : ι → Cx} {W : WX} {P : Program} {w : World} {K : PySem.W.Frag} {mg : Str → Option Value} {base : Heap}
theorem DE.act {x : Str} {i k : Nat} {p1 p2 : Pos} (hP : ∀ j, (X j).prog = P ∧ (X j).w = w ∧ (X j).K = K ∧ (X j).mg = mg ∧ (X j).base = base) (hgd : ∀ j, (X j).A.guards = some []) (hr : ∀ j, Room k (X j).A) (tk : ∀ j, Takes (X j) W) (hv : ∀ j, PE (X j) (.Name x p1) (tVar i)) :
    DE X W (.Call (.Name x p1) [] [] p2) (fun ρ => do cloW P w K mg base k (← getD i ρ)) := by
  refine ⟨fun σ H Q => ∃ (f : Addr) (r : CloR), σ[i]? = some (some (.ref f)) ∧ H f = some (FixO f r.obj) ∧ ∀ (A : Around) (outer : List Env) (s : Shared), A.guards = some [] → Room k A → Env0 P w K mg base A outer s H → codeAny (model P w) A (.call (.ref f) ⟨[], []⟩) (CR (L2.CX P w) outer P w H s Q (WE W σ)) s, fun j => ⟨fun pins s σ H Q I h => ?_⟩, fun F H n σ ρ Kd Kx Q hs ht hq hx => ?_⟩
  · obtain ⟨f, r, h0, hf, hc⟩ := h
    obtain ⟨eP, ew, eK, em, eb⟩ := hP j
    subst eP ew eK em eb
    refine wpAny_Call_Name_kw (thn ((hv j).run pins s σ H (fun v H1 => v = .ref f ∧ H1 = H) I ⟨.ref f, h0, rfl, rfl⟩) fun u s1 ⟨v, H1, I1, r1, q1⟩ => ?_)
    obtain ⟨ev, eH⟩ := q1
    subst ev
    rw [eH] at I1
    obtain rfl : u = Value.ref f := r1
    refine PySem.W.callWith_F0 ⟨_, _, _, _, fixO_at I1.hok hf⟩ ?_
    refine wpAny_call (codeAny_mono (hc (X j).A (X j).stack s1 (hgd j) (hr j) I1.env0) fun res s' hq => ?_)
    match res, hq with
    | .error er, hq => exact passAt (tk j) σ pins H s1 er s' I1 hq
    | .ok (.ret u), hq => exact I1.after hq
  · obtain ⟨d, e1, ht1⟩ := getD_run (show getD i ρ (fun d n' => cloW P w K mg base k d Kd Kx n') Kx n from ht)
    obtain ⟨v, e2, hv'⟩ := hs.at_ _ _ e1
    have hv' : Has F H v d := hv'
    cases d with
    | clo b r ds =>
      cases b with
      | false => exact ht1.elim
      | true =>
        obtain ⟨m, sp, hm⟩ := ht1
        cases id hv' with
        | @clo1 f _ vs _ Ff hf _ _ _ _ _ =>
          exact ⟨f, r, e2, hf, fun A outer s hg hr e0 => sp A outer s H F n f Kd Kx Q _ hg hr e0 hs.pb hv' hm hq hx⟩
    | _ => exact ht1.elim
end

/-! ### a lambda made -/
/-- a lambda of this text, made by a def of these cells -/
structure LamR (cells : List (Str × Addr)) (ps : Arguments) (bd : Expr) (sc : Scope) (r : CloR) : Prop where
  qual : r.qual = qLam
  params : r.params = ps
  body : r.body = bd
  scope : r.scope = sc
  cl : r.cl = cloFrom cells sc.names []
def tLamN (P : Addr) (cells : List (Str × Addr)) (params : Arguments) (body : Expr) (scope : Scope) : TE := fun _ H Q => ∃ ps, H P = some (.tbl ps) ∧ TriplesOk ps.toList ∧ (∀ (pos : Pos) (cv : Value), codeAmong pos ps.toList = some cv → ∃ c, cv = .ref c ∧ H c = some (CodO c qLam)) ∧
  ∀ (r : CloR) (f : Addr) (H2 : Hp), LamR cells params body scope r → (H2 = H ∧ H r.code = some (CodO r.code qLam) ∧ (∃ pos, codeAmong pos ps.toList = some (.ref r.code)) ∨ H r.code = none ∧ ∃ (p : Pos), H2 = upd (upd H P (.tbl (ps ++ #[rawInt p.line, rawInt p.col, .ref r.code]))) r.code (CodO r.code qLam)) → H2 f = none → Q (.ref f) (upd H2 f (FixO f r.obj))
section
variable {X : Cx} {P c : Addr} {params : Arguments} {body : Expr} {scope : Scope} {pos : Pos}
theorem pe_lamN (TB : LamX.TabB X.base X.mg c P) (hcode : X.env.code = .ref c) (hq : X.env.qual ++ "<lambda>" = qLam) (hdef : defaultsOf params X.env = ([], [])) (hfree : ∀ y ∈ scope.names, y.2 = .free → ∃ c, X.env.cells.lookup y.1 = some c) :
    PE X (.Lambda params body scope pos) (tLamN P X.env.cells params body scope) := by
  refine ⟨fun pins s σ H Q I h => ?_⟩
  obtain ⟨ps, hP, ht, ha, h⟩ := h
  refine PySem.W.kla_eval hdef ?_
  rw [hq]
  have bP : s.heap.BuiltinsAt X.mg P := TB.bm.keeps I.bk
  have hP' : s.heap.get? P = some { cls := .none, data := .fields ps } := I.hok P _ hP
  have build : ∀ (r : CloR) (H2 : Hp) (h' : Heap) (tk : Nat), LamR X.env.cells params body scope r → (H2 = H ∧ H r.code = some (CodO r.code qLam) ∧ (∃ pos, codeAmong pos ps.toList = some (.ref r.code)) ∨ H r.code = none ∧ ∃ (p : Pos), H2 = upd (upd H P (.tbl (ps ++ #[rawInt p.line, rawInt p.col, .ref r.code]))) r.code (CodO r.code qLam)) →
      Inv X pins σ H2 { s with heap := h', toks := tk } → EP X pins σ Q (.ref h'.objs.size) { s with heap := h'.push r.obj, toks := tk } := fun r H2 h' tk lr hc I2 => by
    have hn : H2 h'.objs.size = none := I2.hok.fresh (Nat.le_refl _)
    have I3 : Inv X pins σ (upd H2 h'.objs.size (FixO h'.objs.size r.obj)) { s with heap := h'.push r.obj, toks := tk } :=
      I2.laid (t' := tk) (a := h'.objs.size) (o := FixO h'.objs.size r.obj) (h' := h'.push r.obj) (fun _ _ e => Heap.get?_push_of_some _ e) (Nat.le_refl _) (fixO_ok (Heap.get?_push_size _ rfl))
    exact ⟨.ref h'.objs.size, _, I3, rfl, h r h'.objs.size H2 lr hc hn⟩
  cases hc : codeAmong pos ps.toList with
  | none =>
    refine PySem.W.kla_makeFunction (mg := X.mg) (c := c) (P := P) (ps := ps) (closure_ok hfree) I.ok.glob (I.mod.glob.keeps I.bk) hcode (TB.code.keeps I.bk) hP' ht hc TB.gP bP fun c' ctv h' tk hx hge hlt hrec htb => ?_
    obtain ⟨c2, oc, vs, t, e2, hoc, hd, hv⟩ := hrec
    cases e2
    have nC : H c' = none := I.hok.fresh hge
    have I1 : Inv X pins σ (upd (upd H P (.tbl (ps ++ #[rawInt pos.line, rawInt pos.col, .ref c']))) c' (CodO c' qLam)) { s with heap := h', toks := tk } := LamX.inv_table (t' := tk) (more := #[rawInt pos.line, rawInt pos.col, .ref c']) (h' := h') I hP (fun b o hb e => hx b o hb e) htb hge ⟨oc, vs, t, hoc, hd, hv⟩
    exact build ⟨qLam, params, body, scope, cloFrom X.env.cells scope.names [], (X.mg "__name__").getD .none, c', ctv⟩ _ h' tk ⟨rfl, rfl, rfl, rfl, rfl⟩ (.inr ⟨nC, pos, rfl⟩) I1
  | some cv =>
    obtain ⟨c', e, hco⟩ := ha pos cv hc
    subst e
    refine PySem.W.kla_makeFunctionHit (mg := X.mg) (c := c) (P := P) (ps := ps) (closure_ok hfree) I.ok.glob (I.mod.glob.keeps I.bk) hcode (TB.code.keeps I.bk) hP' ht hc bP fun ctv h' tk hx hsz => ?_
    have I1 : Inv X pins σ H { s with heap := h', toks := tk } := I.kept fun b o e => hx b o e
    exact build ⟨qLam, params, body, scope, cloFrom X.env.cells scope.names [], (X.mg "__name__").getD .none, c', ctv⟩ _ h' tk ⟨rfl, rfl, rfl, rfl, rfl⟩ (.inl ⟨rfl, hco, pos, hc⟩) I1
end
/-- by data: some lambda of this text -/
def dLam (cells : List (Str × Addr)) (params : Arguments) (body : Expr) (scope : Scope) : TD D := fun _ Kd _ n => ∀ r : CloR, LamR cells params body scope r → Kd (.clo false r []) n
/-- the table of the law's lambdas is tracked -/
def TabAt (P : Addr) (H : Hp) : Prop := ∃ ps, H P = some (.tbl ps)
theorem run_lamN {W : WX} {P : Addr} {cells : List (Str × Addr)} {params : Arguments} {body : Expr} {scope : Scope} {F : Addr → Prop} {H : Hp} {n : Nat} {σ : L2.St} {ρ : Env'} {Kd : D → Nat → Prop} {Kx : XD → Nat → Prop} {Q : VK} (ht : TabAt P H) (hs : HasS F H n σ ρ) (h : dLam cells params body scope ρ Kd Kx n)
    (hq : ∀ v d F' H' n', Grow F H n F' H' n' → Has F' H' v d → Kd d n' → Q v H') : tLamN P cells params body scope σ H Q := by
  obtain ⟨ps, hP⟩ := ht
  have tb := hs.pb.tb P ps hP
  refine ⟨ps, hP, tb.tr, fun pos cv e => let ⟨c, e1, _, e2⟩ := tb.at_ pos cv e; ⟨c, e1, e2⟩, fun r f H2 lr hc hf => ?_⟩
  rcases hc with ⟨rfl, hco, pos, hcd⟩ | ⟨nC, p, rfl⟩
  · obtain ⟨c, e1, Fc, e2⟩ := tb.at_ pos _ hcd
    cases e1
    have g : Grow F H2 n (plusF F f) (upd H2 f (FixO f r.obj)) n := .laid hs.pb hf .ext
    refine hq _ _ _ _ n g (.clo0 plusF_same upd_same (.inl Fc) ?_) (h r lr)
    rw [upd_ne (ne_of_none hco hf), hco, lr.qual]
  · have hPc : P ≠ r.code := ne_of_none hP nC
    have hPf : f ≠ P := fun e => by rw [e, upd_ne hPc, upd_same] at hf; cases hf
    have hfc : f ≠ r.code := fun e => by rw [e, upd_same] at hf; cases hf
    have hf0 : H f = none := by rw [upd_ne hfc, upd_ne hPf] at hf; exact hf
    have at_ : ∀ b, b ≠ P → b ≠ r.code → b ≠ f → upd (upd (upd H P (.tbl (ps ++ #[rawInt p.line, rawInt p.col, .ref r.code]))) r.code (CodO r.code qLam)) f (FixO f r.obj) b = H b := fun b h1 h2 h3 => by rw [upd_ne h3, upd_ne h2, upd_ne h1]
    have atC : upd (upd (upd H P (.tbl (ps ++ #[rawInt p.line, rawInt p.col, .ref r.code]))) r.code (CodO r.code qLam)) f (FixO f r.obj) r.code = some (CodO r.code qLam) := by rw [upd_ne (Ne.symm hfc), upd_same]
    have atP : upd (upd (upd H P (.tbl (ps ++ #[rawInt p.line, rawInt p.col, .ref r.code]))) r.code (CodO r.code qLam)) f (FixO f r.obj) P = some (.tbl (ps ++ #[rawInt p.line, rawInt p.col, .ref r.code])) := by rw [upd_ne (Ne.symm hPf), upd_ne hPc, upd_same]
    have nP : ∀ {b : Addr} {u : HO}, H b = some u → Hard u → b ≠ P := fun e hu z => by
      rw [z, hP] at e
      exact hu.tbl ps (Option.some.inj e).symm
    have sub : ∀ {b : Addr} {u : HO}, H b = some u → Hard u → upd (upd (upd H P (.tbl (ps ++ #[rawInt p.line, rawInt p.col, .ref r.code]))) r.code (CodO r.code qLam)) f (FixO f r.obj) b = some u := fun {b u} e hu => by
      rw [at_ b (nP e hu) (ne_of_none e nC) (ne_of_none e hf0)]
      exact e
    refine hq _ _ (fun b => F b ∨ b = f ∨ b = r.code) _ n ⟨fun b o e => ?_, fun b fb => .inl fb, fun b fb => ?_, ⟨fun b c q e => ?_, fun b fb => ?_, fun Q qs e => ?_⟩, Nat.le_refl _⟩ (.clo0 (.inr (.inl rfl)) upd_same (.inr (.inr rfl)) (by rw [atC, lr.qual])) (h r lr)
    · by_cases hb : b = P
      · subst hb
        rw [hP] at e
        cases e
        exact .inr (.inr ⟨ps, _, rfl, atP⟩)
      · exact .inl (by rw [at_ b hb (ne_of_none e nC) (ne_of_none e hf0)]; exact e)
    · rcases fb with fb | rfl | rfl
      · exact .inl fb
      · exact .inr hf0
      · exact .inr nC
    · by_cases h1 : b = f
      · subst h1; rw [upd_same] at e; cases e
      · by_cases h2 : b = r.code
        · subst h2; rw [atC] at e; cases e
        · by_cases h3 : b = P
          · subst h3; rw [atP] at e; cases e
          · rw [at_ b h3 h2 h1] at e
            exact hs.pb.ct b c q e
    · by_cases h1 : b = f
      · subst h1; exact ⟨_, upd_same⟩
      · by_cases h2 : b = r.code
        · subst h2; exact ⟨_, atC⟩
        · by_cases h3 : b = P
          · subst h3; exact ⟨_, atP⟩
          · rw [at_ b h3 h2 h1]
            exact hs.pb.dom b (fb.resolve_right fun z => z.elim h1 h2)
    · have old : ∀ qs, H Q = some (.tbl qs) → TblOk (fun b => F b ∨ b = f ∨ b = r.code) (upd (upd (upd H P (.tbl (ps ++ #[rawInt p.line, rawInt p.col, .ref r.code]))) r.code (CodO r.code qLam)) f (FixO f r.obj)) qs := fun qs e => (hs.pb.tb Q qs e).mono (fun _ => .inl) fun c _ q => sub q .ext
      by_cases h1 : Q = f
      · subst h1; rw [upd_same] at e; cases e
      · by_cases h2 : Q = r.code
        · subst h2; rw [atC] at e; cases e
        · by_cases h3 : Q = P
          · subst h3
            rw [atP] at e
            cases e
            obtain ⟨t1, t2⟩ := old ps hP
            have eL : (ps ++ #[rawInt p.line, rawInt p.col, .ref r.code]).toList = ps.toList ++ [rawInt p.line, rawInt p.col, .ref r.code] := by simp
            refine ⟨by rw [eL]; exact PySem.TriplesOk_snoc _ _ _ _ t1, fun p' cv hcv => ?_⟩
            rw [eL] at hcv
            rcases LamX.among_app _ t1 hcv with z | z
            · exact t2 p' cv z
            · exact ⟨r.code, z, .inr (.inr rfl), atC⟩
          · rw [at_ Q h3 h2 h1] at e
            exact old qs e

def tabD (P : Addr) (cells : List (Str × Addr)) (params : Arguments) (body : Expr) (scope : Scope) : D → TD D
  | .scr _ _ tabs => fun ρ => do Wm.need (P ∈ tabs); dLam cells params body scope ρ
  | _ => fun _ => Wm.fail
section
variable {ι : Type} {X : ι → Cx} {W : WX}
/-- lambda: body, in the law; slot i: the script -/
theorem DE.lam {P c : Addr} {i : Nat} {params : Arguments} {body : Expr} {scope : Scope} {pos : Pos} {cells : List (Str × Addr)} (hcl : ∀ j, (X j).env.cells = cells) (TB : ∀ j, LamX.TabB (X j).base (X j).mg c P) (hcode : ∀ j, (X j).env.code = .ref c) (hq : ∀ j, (X j).env.qual ++ "<lambda>" = qLam) (hdef : ∀ j, defaultsOf params (X j).env = ([], []))
    (hfree : ∀ j, ∀ y ∈ scope.names, y.2 = .free → ∃ c, (X j).env.cells.lookup y.1 = some c) : DE X W (.Lambda params body scope pos) (fun ρ => do let s ← getD i ρ; tabD P cells params body scope s ρ) := by
  refine ⟨tLamN P cells params body scope, fun j => by rw [← hcl j]; exact pe_lamN (TB j) (hcode j) (hq j) (hdef j) (hfree j), fun F H n σ ρ Kd Kx Q hs ht hq hx => ?_⟩
  obtain ⟨d, e1, ht1⟩ := getD_run (show getD i ρ (fun d n' => tabD P cells params body scope d ρ Kd Kx n') Kx n from ht)
  obtain ⟨v, e2, hv⟩ := hs.at_ _ _ e1
  have hv : Has F H v d := hv
  cases hv <;> try exact ht1.elim
  rename_i hT
  obtain ⟨hm, hk⟩ := ht1
  exact run_lamN (W := W) (hT P hm).2 hs hk hq
end

/-! ### rows of lambdas handed to a def -/
mutual
/-- the lambdas' captured values told -/
def tellD (cap : Str → D) : D → D
  | .clo _ r _ => .clo true r (r.cl.map fun p => cap p.1)
  | .tup ds => .tup (tellL cap ds)
  | .lst ds => .lst (tellL cap ds)
  | .non => .non
  | .bl b => .bl b
  | .int i => .int i
  | .str x => .str x
  | .dic ks ds => .dic ks ds
  | .obj C ns ds => .obj C ns ds
  | .exc C ns ds => .exc C ns ds
  | .pen => .pen
  | .fnA a => .fnA a
  | .scr K ns t => .scr K ns t
def tellL (cap : Str → D) : List D → List D
  | [] => []
  | d :: ds => tellD cap d :: tellL cap ds
end
mutual
/-- each lambda's cells are among the told ones; dicts and objects bear none -/
def tellOk (ok : CloR → Prop) : D → Prop
  | .clo _ r _ => ok r
  | .tup ds => tellOkL ok ds
  | .lst ds => tellOkL ok ds
  | .non => True
  | .bl _ => True
  | .int _ => True
  | .str _ => True
  | .dic ks ds => plainD (.dic ks ds) = true
  | .obj C ns ds => plainD (.obj C ns ds) = true
  | .exc _ _ _ => False
  | .pen => False
  | .fnA _ => True
  | .scr _ _ _ => False
def tellOkL (ok : CloR → Prop) : List D → Prop
  | [] => True
  | d :: ds => tellOk ok d ∧ tellOkL ok ds
end
section
variable {l : List Addr} {F : Addr → Prop} {H f : Hp}
mutual
theorem Has.lay (hn : ∀ c ∈ l, H c = none) : ∀ {v : V} {d : D}, Has F H v d → plainD d = true → Has (layF l F) (DL.lay l f H) v d
  | _, _, .non, _ => .non
  | _, _, .bl b, _ => .bl b
  | _, _, .int i, _ => .int i
  | _, _, .str x, _ => .str x
  | _, _, .tup (a := a) Fa h k, e => .tup (.inl Fa) ((lay_out fun z => by rw [hn a z] at h; cases h).trans h) (HasL.lay hn k (by unfold plainD at e; exact e))
  | _, _, .lst (a := a) Fa h k, e => .lst (.inl Fa) ((lay_out fun z => by rw [hn a z] at h; cases h).trans h) (HasL.lay hn k (by unfold plainD at e; exact e))
  | _, _, .dic (a := a) Fa h q z k, e => .dic (.inl Fa) ((lay_out fun z => by rw [hn a z] at h; cases h).trans h) q z (HasL.lay hn k (by unfold plainD at e; exact e))
  | _, _, .obj (a := a) Fa h z k, e => .obj (.inl Fa) ((lay_out fun z => by rw [hn a z] at h; cases h).trans h) z (HasL.lay hn k (by unfold plainD at e; exact e))
  | _, _, .pen _ _ _ _ _ _, e => by unfold plainD at e; cases e
  | _, _, .clo0 _ _ _ _, e => by unfold plainD at e; cases e
  | _, _, .clo1 _ _ _ _ _ _ _, e => by unfold plainD at e; cases e
  | _, _, .fnA a, _ => .fnA a
  | _, _, .scr _ _, e => by unfold plainD at e; cases e
theorem HasL.lay (hn : ∀ c ∈ l, H c = none) : ∀ {vs : List V} {ds : List D}, HasL F H vs ds → plainL ds = true → HasL (layF l F) (DL.lay l f H) vs ds
  | _, _, .nil, _ => .nil
  | _, _, .cons h k, e => by
    unfold plainL at e
    obtain ⟨e1, e2⟩ := Bool.and_eq_true_iff.mp e
    exact .cons (Has.lay hn h e1) (HasL.lay hn k e2)
end
/-- what is known of a told cell -/
def Told (l : List Addr) (F : Addr → Prop) (H f : Hp) (cap : Str → D) (p : Str × Addr) : Prop := p.2 ∈ l ∧ ∃ v u o, RelV v u ∧ o.data = .cell (some u) ∧ f p.2 = some (FixO p.2 o) ∧ Has (layF l F) (DL.lay l f H) v (cap p.1)
theorem told_all {cap : Str → D} : ∀ {cl : List (Str × Addr)}, (∀ p ∈ cl, Told l F H f cap p) → ∃ vs, vs.length = cl.length ∧ (∀ p ∈ cl.zip vs, (layF l F) p.1.2 ∧ ∃ u o, RelV p.2 u ∧ o.data = .cell (some u) ∧ DL.lay l f H p.1.2 = some (FixO p.1.2 o)) ∧ HasL (layF l F) (DL.lay l f H) vs (cl.map fun p => cap p.1)
  | [], _ => ⟨[], rfl, fun p hp => by simp at hp, .nil⟩
  | q :: cl, h => by
    obtain ⟨vs, h1, h2, h3⟩ := told_all (cl := cl) fun p hp => h p (List.mem_cons_of_mem _ hp)
    obtain ⟨hl, v, u, o, ru, dd, e, hv⟩ := h q List.mem_cons_self
    refine ⟨v :: vs, by simp [h1], fun p hp => ?_, .cons hv h3⟩
    rw [List.zip_cons_cons] at hp
    rcases List.mem_cons.mp hp with rfl | hp
    · exact ⟨.inr hl, u, o, ru, dd, by rw [lay_in hl]; exact e⟩
    · exact h2 p hp
mutual
theorem Has.tell {cap : Str → D} (hn : ∀ c ∈ l, H c = none) : ∀ {v : V} {d : D}, Has F H v d → tellOk (fun r => ∀ p ∈ r.cl, Told l F H f cap p) d → Has (layF l F) (DL.lay l f H) v (tellD cap d)
  | _, _, .non, _ => by unfold tellD; exact .non
  | _, _, .bl b, _ => by unfold tellD; exact .bl b
  | _, _, .int i, _ => by unfold tellD; exact .int i
  | _, _, .str x, _ => by unfold tellD; exact .str x
  | _, _, .tup (a := a) Fa h k, e => by unfold tellD; unfold tellOk at e; exact .tup (.inl Fa) ((lay_out fun z => by rw [hn a z] at h; cases h).trans h) (HasL.tell hn k e)
  | _, _, .lst (a := a) Fa h k, e => by unfold tellD; unfold tellOk at e; exact .lst (.inl Fa) ((lay_out fun z => by rw [hn a z] at h; cases h).trans h) (HasL.tell hn k e)
  | _, _, .dic Fa h q z k, e => by unfold tellD; unfold tellOk at e; exact (Has.dic Fa h q z k).lay hn e
  | _, _, .obj Fa h z k, e => by unfold tellD; unfold tellOk at e; exact (Has.obj Fa h z k).lay hn e
  | _, _, .pen _ _ _ _ _ _, e => by unfold tellOk at e; exact e.elim
  | _, _, .clo0 (a := a) (r := r) Fa h Fc hc, e => by
    unfold tellOk at e
    unfold tellD
    obtain ⟨vs, h1, h2, h3⟩ := told_all e
    exact .clo1 (.inl Fa) ((lay_out fun z => by rw [hn a z] at h; cases h).trans h) (.inl Fc) ((lay_out fun z => by rw [hn _ z] at hc; cases hc).trans hc) h1 h2 h3
  | _, _, .clo1 (a := a) (r := r) Fa h Fc hc _ _ _, e => by
    unfold tellOk at e
    unfold tellD
    obtain ⟨vs, h1, h2, h3⟩ := told_all e
    exact .clo1 (.inl Fa) ((lay_out fun z => by rw [hn a z] at h; cases h).trans h) (.inl Fc) ((lay_out fun z => by rw [hn _ z] at hc; cases hc).trans hc) h1 h2 h3
  | _, _, .fnA a, _ => by unfold tellD; exact .fnA a
  | _, _, .scr _ _, e => by unfold tellOk at e; exact e.elim
theorem HasL.tell {cap : Str → D} (hn : ∀ c ∈ l, H c = none) : ∀ {vs : List V} {ds : List D}, HasL F H vs ds → tellOkL (fun r => ∀ p ∈ r.cl, Told l F H f cap p) ds → HasL (layF l F) (DL.lay l f H) vs (tellL cap ds)
  | _, _, .nil, _ => by unfold tellL; exact .nil
  | _, _, .cons h k, e => by
    unfold tellOkL at e
    unfold tellL
    exact .cons (Has.tell hn h e.1) (HasL.tell hn k e.2)
end
end

theorem PenB.lay {l : List Addr} {F : Addr → Prop} {H f : Hp} {n : Nat} (pb : PenB F H n) (fx : Fixed l f) (hn : ∀ c ∈ l, H c = none) : PenB (layF l F) (DL.lay l f H) n where
  ct := fun a c p e => by
    by_cases ha : a ∈ l
    · rw [lay_in ha] at e; exact absurd ha (fx.out e fun _ _ => fix_dK)
    · rw [lay_out ha] at e; exact pb.ct a c p e
  dom := fun a h => by
    by_cases ha : a ∈ l
    · rw [lay_in ha]
      obtain ⟨o, e⟩ := fx a ha
      exact ⟨_, e⟩
    · rw [lay_out ha]; exact pb.dom a (h.resolve_right ha)
  tb := fun Q ps e => by
    by_cases ha : Q ∈ l
    · rw [lay_in ha] at e; exact absurd ha (fx.out e fun _ _ => fix_tbl)
    · rw [lay_out ha] at e
      exact (pb.tb Q ps e).mono (fun _ => .inl) fun c _ q => (lay_out fun z => by rw [hn c z] at q; cases q).trans q
theorem PenB.cutC {l : List Addr} {F : Addr → Prop} {H : Hp} {n : Nat} (pb : PenB F H n) (hc : ∀ c ∈ l, H c ≠ some (CodO c qLam)) : PenB (cutF l F) (DL.cut l H) n where
  ct := fun a c p e => by
    by_cases ha : a ∈ l
    · rw [cut_in ha] at e; cases e
    · rw [cut_out ha] at e; exact pb.ct a c p e
  dom := fun a h => by
    rw [cut_out h.2]
    exact pb.dom a h.1
  tb := fun Q ps e => by
    by_cases ha : Q ∈ l
    · rw [cut_in ha] at e; cases e
    · rw [cut_out ha] at e
      obtain ⟨t1, t2⟩ := pb.tb Q ps e
      exact ⟨t1, fun pos cv z => let ⟨c, e1, h, e2⟩ := t2 pos cv z; have hcl : c ∉ l := fun z => hc c z e2; ⟨c, e1, ⟨h, hcl⟩, (cut_out hcl).trans e2⟩⟩
theorem Grow.cut {l : List Addr} {F F' : Addr → Prop} {H H' f : Hp} {n n' : Nat} (pb : PenB F H n) (hn : ∀ c ∈ l, H c = none) (fx : Fixed l f) (hc : ∀ c ∈ l, f c ≠ some (CodO c qLam)) (g : Grow (layF l F) (DL.lay l f H) n F' H' n') : Grow F H n (cutF l F') (DL.cut l H') n' ∧ ∀ c ∈ l, H' c = f c := by
  have hk : ∀ c ∈ l, H' c = f c := fun c hcl => by
    obtain ⟨o, e⟩ := fx c hcl
    rw [e]
    exact g.keepL ((lay_in hcl).trans e) .ext
  have off : ∀ {b : Addr} {u : HO}, H b = some u → b ∉ l := fun q z => by rw [hn _ z] at q; cases q
  refine ⟨⟨fun a o e => ?_, fun a h => ?_, fun a h => ?_, g.pb.cutC fun c hcl e => hc c hcl (by rw [← hk c hcl]; exact e), g.le⟩, hk⟩
  · rw [cut_out (off e)]
    exact g.keep a o ((lay_out (off e)).trans e)
  · obtain ⟨o, e⟩ := pb.dom a h
    exact ⟨g.sub a (.inl h), off e⟩
  · rcases g.new a h.1 with z | z
    · exact .inl (z.resolve_right h.2)
    · rw [lay_out h.2] at z; exact .inr z

/-- f(.., rows of lambdas ..) in the def whose cells they bear; idx: the slots of the captured names -/
def tTell (sp : Sp) (cells : List (Str × Addr)) (caps : List Str) (idx : Str → Nat) (ta : TA) : TE := fun σ H Q => ta σ H fun vs H1 => (∀ y ∈ caps, ∃ v, σ[idx y]? = some (some v)) ∧
  ∀ f : Hp, Fixed (caps.filterMap (fun y => cells.lookup y)) f → (∀ c ∈ caps.filterMap (fun y => cells.lookup y), H1 c = none ∧ f c ≠ some (CodO c qLam)) → (∀ y ∈ caps, ∃ c v u o, cells.lookup y = some c ∧ σ[idx y]? = some (some v) ∧ RelV v u ∧ o.data = .cell (some u) ∧ f c = some (FixO c o)) →
    sp vs (lay (caps.filterMap (fun y => cells.lookup y)) f H1) (fun v H2 => (∀ c ∈ caps.filterMap (fun y => cells.lookup y), H2 c = f c) ∧ Q v (cut (caps.filterMap (fun y => cells.lookup y)) H2)) (fun _ _ _ => False)
section
variable {X : Cx} {k : Nat} {f : Addr} {fd : FuncData} {ps : List Str} {sp : Sp} {x : Str} {p pos : Pos} {e : Expr} {es : List Expr} {ta : TA} {caps : List Str} {idx : Str → Nat}
theorem pe_tell (F : FnG X.prog X.w X.K X.mg X.base k f fd ps sp) (hgd : X.A.guards = some []) (hr : Room k X.A) (hg : Gl X x) (hm : X.mg x = some (.ref f)) (hk : PySem.W.keepIn X.K (.ref f) = true) (hb : Binds X.K fd ps [])
    (hfn : ∀ y ∈ caps, X.fn y = true) (hcap : ∀ y ∈ caps, X.env.scope.names.lookup y = some .cell ∧ X.N[idx y]? = some y) (ha : PA X (e :: es) ta) (hdb : (x == ("__debug__" : Str)) = false := by decide) (he : starEach (e :: es) X.env = (false, eval e X.env) :: starEach es X.env := by rfl) (hpl : (backTo pos (starEach es X.env)).any (·.1) = false := by rfl) :
    PE X (.Call (.Name x p) (e :: es) [] pos) (tTell sp X.env.cells caps idx ta) := by
  refine ⟨fun pins s σ H Q I h => wpAny_Call_Name_kw (ld_glob I hg hm ?_ hdb)⟩
  refine PySem.W.callWith_K (h₀ := X.base) I.ok.mod.kin hk (thn (ha.run pos pins s σ H _ I h) ?_) he hpl
  rintro us s1 ⟨vs, H1, I1, r, hset, q⟩
  refine ⟨I1.kIn, ?_⟩
  obtain ⟨l, hl⟩ : ∃ l, l = caps.filterMap (fun y => X.env.cells.lookup y) := ⟨_, rfl⟩
  rw [← hl] at q
  have ofl : ∀ c ∈ l, ∃ y ∈ caps, X.env.cells.lookup y = some c := fun c hc => by
    rw [hl] at hc
    obtain ⟨y, hy, e⟩ := List.mem_filterMap.mp hc
    exact ⟨y, hy, e⟩
  have cell : ∀ y ∈ caps, ∃ c v u o, X.env.cells.lookup y = some c ∧ σ[idx y]? = some (some v) ∧ RelV v u ∧ o.data = .cell (some u) ∧ s1.heap.get? c = some o := fun y hy => by
    obtain ⟨v, hv⟩ := hset y hy
    obtain ⟨hsc, hN⟩ := hcap y hy
    obtain ⟨m, _, hlk⟩ := I1.loc
    obtain ⟨u, ru, ⟨kl, _⟩ | ⟨_, c, e, o, ho, hd⟩⟩ := hlk _ y v hN hv (.inr (.inl hsc))
    · have kl : X.env.scope.names.lookup y = some .local := kl
      rw [hsc] at kl
      cases kl
    · exact ⟨c, v, u, o, e, hv, ru, hd, ho⟩
  have celll : ∀ c ∈ l, ∃ u o, o.data = .cell (some u) ∧ s1.heap.get? c = some o := fun c hc => by
    obtain ⟨y, hy, e⟩ := ofl c hc
    obtain ⟨c2, v, u, o, e2, _, _, hd, ho⟩ := cell y hy
    rw [e] at e2
    cases e2
    exact ⟨u, o, hd, ho⟩
  let ff : Hp := fun a => (s1.heap.get? a).map (FixO a)
  have fe : ∀ {c : Addr} {o : Obj}, s1.heap.get? c = some o → ff c = some (FixO c o) := fun {c o} e => by
    show (s1.heap.get? c).map (FixO c) = _
    rw [e]; rfl
  have fx : Fixed l ff := fun c hc => let ⟨_, o, _, ho⟩ := celll c hc; ⟨o, fe ho⟩
  have hn : ∀ c ∈ l, H1 c = none := fun c hc => let ⟨y, _, e⟩ := ofl c hc; I1.freeC y c e
  have hgt : ∀ c ∈ l, ∀ o, ff c = some (FixO c o) → s1.heap.get? c = some o := fun c hc o e => by
    obtain ⟨u, o2, hd, ho⟩ := celll c hc
    have e2 := fe ho
    rw [e] at e2
    have e3 : (fun h : Heap => h.get? c = some o) = fun h : Heap => h.get? c = some o2 := HO.ext.inj (Option.some.inj e2)
    have e4 := congrFun e3 s1.heap
    rw [e4]
    exact ho
  have hcod : ∀ c ∈ l, ff c ≠ some (CodO c qLam) := fun c hc e => by
    obtain ⟨u, o2, hd, ho⟩ := celll c hc
    rw [fe ho] at e
    have e3 : (fun h : Heap => h.get? c = some o2) = fun h : Heap => ∃ (oc : Obj) (vs : Array Value) (t : Tok), h.get? c = some oc ∧ oc.data = .fields vs ∧ vs[1]? = some (.str qLam t) := HO.ext.inj (Option.some.inj e)
    have e4 : (s1.heap.get? c = some o2) = (∃ (oc : Obj) (vs : Array Value) (t : Tok), s1.heap.get? c = some oc ∧ oc.data = .fields vs ∧ vs[1]? = some (.str qLam t)) := congrFun e3 s1.heap
    rw [e4] at ho
    obtain ⟨oc, vs, t, b1, b2, _⟩ := id ho
    rw [← e4] at ho
    rw [ho] at b1
    cases b1
    rw [hd] at b2
    cases b2
  have big : ∀ c ∈ l, X.s_0.heap.objs.size ≤ c := fun c hc => let ⟨y, hy, e⟩ := ofl c hc; I1.ok.cab y c (hfn y hy) e
  have nfr : ∀ c ∈ l, c ∉ frs X.stack := fun c hc z => by
    obtain ⟨y, _, e⟩ := ofl c hc
    rcases List.mem_cons.mp (I1.stkSub _ z) with z | z
    · exact I1.cne y c e z
    · obtain ⟨_, o, ho, _⟩ := I1.ok.funs.mem z
      exact absurd (Nat.lt_of_lt_of_le (Heap.lt_size ho) (big c hc)) (Nat.lt_irrefl _)
  have e0 := I1.env0
  have e1 : Env0 X.prog X.w X.K X.mg X.base X.A X.stack s1 (lay l ff H1) := ⟨e0.frames, e0.mod, fun b o e => by
      have hb : b ∉ l := fun z => absurd (Nat.lt_of_lt_of_le (Heap.lt_size e) (Nat.le_trans I1.ok.bsz (big b z))) (Nat.lt_irrefl _)
      rw [lay_out hb]
      exact e0.bs b o e, e0.bsz, e0.funs, fun b hb => by
      rw [lay_out (fun z => nfr b z hb)]
      exact e0.frf b hb, hok_lay fx hn hgt e0.hok, e0.bare⟩
  have hsp := q ff fx (fun c hc => ⟨hn c hc, hcod c hc⟩) fun y hy => let ⟨c, v, u, o, a, b, d, g, hh⟩ := cell y hy; ⟨c, v, u, o, a, b, d, g, fe hh⟩
  have hlen : us.length = ps.length := by rw [← r.length]; exact F.len _ _ _ _ hsp
  have bt := hb s1 us I1.kIn (by rw [List.append_nil]; exact hlen)
  rw [List.append_nil] at bt
  refine wpAny_call (codeAny_mono (F.run X.A X.stack s1 _ ⟨us, []⟩ us vs _ _ hgd hr e1 bt r hsp) fun res s' hq => ?_)
  match res, hq with
  | .error er, hq =>
    obtain ⟨_, _, _, _, _, _, _, _, _, _, _, _, z⟩ := hq
    exact z.elim
  | .ok (.ret u), hq =>
    obtain ⟨v, H2, os, bare, un, hok, rv, hkeep, q2⟩ := hq
    obtain ⟨un2, hok2⟩ := un_cut hn fx hgt un hok hkeep
    exact I1.after ⟨v, cut l H2, os, bare, un2, hok2, rv, q2⟩
end
/-- by data -/
def tellW (w : List D → Wm D) (cells : List (Str × Addr)) (caps : List Str) (idx : Str → Nat) (ds : List D) : TD D := fun ρ Kd _ n => ∃ cap : Str → D, (∀ y ∈ caps, ρ[idx y]? = some (some (.d (cap y))) ∧ plainD (cap y) = true) ∧
  tellOkL (fun r => ∀ p ∈ r.cl, p.1 ∈ caps ∧ cells.lookup p.1 = some p.2) ds ∧ w (tellL cap ds) (fun d n' => plainD d = true ∧ Kd d n') XFalse n
mutual
theorem tellOk.imp {p q : CloR → Prop} (h : ∀ r, p r → q r) : ∀ {d : D}, tellOk p d → tellOk q d
  | .clo _ r _, e => by unfold tellOk at e ⊢; exact h r e
  | .tup ds, e => by unfold tellOk at e ⊢; exact tellOkL.imp h e
  | .lst ds, e => by unfold tellOk at e ⊢; exact tellOkL.imp h e
  | .non, e => by unfold tellOk; trivial
  | .bl _, e => by unfold tellOk; trivial
  | .int _, e => by unfold tellOk; trivial
  | .str _, e => by unfold tellOk; trivial
  | .dic _ _, e => by unfold tellOk at e ⊢; exact e
  | .obj _ _ _, e => by unfold tellOk at e ⊢; exact e
  | .exc _ _ _, e => by unfold tellOk at e; exact e.elim
  | .pen, e => by unfold tellOk at e; exact e.elim
  | .fnA _, _ => by unfold tellOk; trivial
  | .scr _ _ _, e => by unfold tellOk at e; exact e.elim
theorem tellOkL.imp {p q : CloR → Prop} (h : ∀ r, p r → q r) : ∀ {ds : List D}, tellOkL p ds → tellOkL q ds
  | [], _ => by unfold tellOkL; trivial
  | d :: ds, e => by unfold tellOkL at e ⊢; exact ⟨tellOk.imp h e.1, tellOkL.imp h e.2⟩
end
section
variable {ι : Type} {X : ι → Cx} {W : WX}
theorem DE.tell {x : Str} {p pos : Pos} {e : Expr} {es : List Expr} {t : TD (List D)} {k f fd} {ps : List Str} {w : List D → Wm D} {m : Nat} {cells : List (Str × Addr)} {caps : List Str} {idx : Str → Nat} (hcl : ∀ i, (X i).env.cells = cells) (F : ∀ i, FnG (X i).prog (X i).w (X i).K (X i).mg (X i).base k f fd ps (spD m w)) (hgd : ∀ i, (X i).A.guards = some []) (hr : ∀ i, Room k (X i).A)
    (hg : ∀ i, Gl (X i) x) (hm : ∀ i, (X i).mg x = some (.ref f)) (hk : ∀ i, PySem.W.keepIn (X i).K (.ref f) = true) (hb : ∀ i, Binds (X i).K fd ps []) (hfn : ∀ i, ∀ y ∈ caps, (X i).fn y = true) (hcap : ∀ i, ∀ y ∈ caps, (X i).env.scope.names.lookup y = some .cell ∧ (X i).N[idx y]? = some y)
    (h : DA X W (e :: es) t) (hdb : (x == ("__debug__" : Str)) = false := by decide)
    (he : ∀ i, starEach (e :: es) (X i).env = (false, eval e (X i).env) :: starEach es (X i).env := by intro _; rfl) (hpl : ∀ i, (backTo pos (starEach es (X i).env)).any (·.1) = false := by intro _; rfl) :
    DE X W (.Call (.Name x p) (e :: es) [] pos) (fun ρ => do let ds ← t ρ; Wm.need (ds.length = m); tellW w cells caps idx ds ρ) := by
  obtain ⟨ta, p1, r1⟩ := h
  refine ⟨tTell (spD m w) cells caps idx ta, fun i => by rw [← hcl i]; exact pe_tell (F i) (hgd i) (hr i) (hg i) (hm i) (hk i) (hb i) (hfn i) (hcap i) (p1 i) hdb (he i) (hpl i), fun F H n σ ρ K Kx Q hs ht hq hx => ?_⟩
  refine r1 F H n σ ρ _ Kx _ hs ht (fun vs ds F1 H1 n1 g1 hv ht1 => ?_) hx
  obtain ⟨hlen, cap, hcap', hok, hw⟩ := ht1
  have hs1 := hs.mono g1
  refine ⟨fun y hy => let ⟨v, e, _⟩ := hs1.at_ _ _ (hcap' y hy).1; ⟨v, e⟩, fun f fx hn hcell => ?_⟩
  obtain ⟨l, hl⟩ : ∃ l, l = caps.filterMap (fun y => cells.lookup y) := ⟨_, rfl⟩
  rw [← hl] at fx hn ⊢
  have hn1 : ∀ c ∈ l, H1 c = none := fun c hc => (hn c hc).1
  have told : tellOkL (fun r => ∀ p ∈ r.cl, Told l F1 H1 f cap p) ds := tellOkL.imp (fun r hr p hp => by
    obtain ⟨h1, h2⟩ := hr p hp
    obtain ⟨c, v, u, o, e1, e2, ru, dd, e3⟩ := hcell _ h1
    rw [h2] at e1
    cases e1
    obtain ⟨v', e4, hv'⟩ := hs1.at_ _ _ (hcap' _ h1).1
    rw [e2] at e4
    cases e4
    exact ⟨by rw [hl]; exact List.mem_filterMap.mpr ⟨_, h1, h2⟩, v, u, o, ru, dd, e3, Has.lay hn1 hv' (hcap' _ h1).2⟩) hok
  refine ⟨by rw [hv.len]; exact hlen, layF l F1, n1, tellL cap ds, _, XFalse, g1.pb.lay fx hn1, hv.tell hn1 told, hw, fun v d F' H' n' g hv' hk' => ?_, fun _ _ _ _ _ _ _ _ z => z⟩
  obtain ⟨g2, hkeep⟩ := g.cut g1.pb hn1 fx fun c hc => (hn c hc).2
  have fx' : Fixed l H' := fun c hc => by rw [hkeep c hc]; exact fx c hc
  exact ⟨hkeep, hq v d _ _ n' (g1.trans g2) (hv'.cut fx' hk'.1) hk'.2⟩
end
end DL


set_option maxRecDepth 100000
set_option maxHeartbeats 2000000
/-! DL10: the end of a law. Own work over HandS. -/
namespace DL
open PySem PySem.Spec PyProof.Rows L2

/-- what the law's run may lean on of the heap at its call: the tables stand empty, the built-ins' module, .. -/
structure LawHeap (K : PySem.W.Frag) (mg mb : Str → Option Value) (cs : List (Addr × Addr)) (s : Shared) : Prop where
  kin : K.In s.heap
  glob : s.heap.Ns mainGlobals mg
  blt : s.heap.Ns builtinsNs mb
  bltv : ∀ x : Str, x ≠ "__name__" → mb x = bootBuiltins x
  lim : s.heap.NoLimit
  gens : s.gens = #[]
  tab : ∀ p ∈ cs, s.heap.get? p.2 = some { cls := .none, data := .fields #[] }
  tabK : ∀ p ∈ cs, K.lookup p.2 = none
  code : ∀ p ∈ cs, PySem.W.CodeHd s.heap p.1 p.2
  bm : ∃ (bm : Addr) (ob : Obj), mg "__builtins__" = some (.ref bm) ∧ bm ≠ builtinsNs ∧ s.heap.get? bm = some ob ∧ ob.cls = .type "module" ∧ ob.dict = some builtinsNs ∧ ob.data = .plain
open Classical in
/-- what is tracked: the script (if it is no written thing), the tables -/
noncomputable def lawH (K : PySem.W.Frag) (cs : List (Addr × Addr)) (a : Addr) (o : Obj) (vs : List V) : Hp := fun b =>
  if b = a then (if K.lookup a = none then some (.frz o (.lst vs)) else none) else if b ∈ cs.map (·.2) then some (.tbl #[]) else none
theorem law_callG {P : Program} {w : World} {K : PySem.W.Frag} {mg mb : Str → Option Value} {k : Nat} {fa a : Addr} {cs : List (Addr × Addr)} {fd : FuncData} {x : Str} {lw : List D → Wm D} {s₁ : Shared} {vs : List Value} {ns : List Int} (L : LawHeap K mg mb cs s₁)
    (ha : s₁.heap.get? a = some { cls := .type "list", data := .seq vs.toArray }) (hi : IntsAre vs ns) (hl : ns.length ≤ sizeLine) (hr : Room k callerA)
    (F : ∀ base : Heap, K.In base → base.Ns mainGlobals mg → (∀ p ∈ cs, LamX.TabB base mg p.1 p.2) → FnG P w K mg base k fa fd [x] (spD 1 lw)) (hbind : ∀ (s : Shared) (u : Value), BindsTo s fd ⟨[u], []⟩ [(x, u)])
    (hw : lw [.scr K ns (cs.map (·.2))] (fun d _ => d = .bl true) XFalse 0) :
    codeAny (model P w) callerA (.call (.ref fa) ⟨[.ref a], []⟩) (fun r s' => r = .ok (.ret (.bool true)) ∧ OldK s₁.heap s'.heap ∧ s'.os = s₁.os ∧ AllBare s'.gens) s₁ := by
  have rv := vals_ints hi
  have lenV := hi.length
  obtain ⟨o, ho⟩ : ∃ o : Obj, o = { cls := .type "list", data := .seq vs.toArray } := ⟨_, rfl⟩
  obtain ⟨H, hH⟩ : ∃ H : Hp, H = lawH K cs a o (ns.map V.int) := ⟨_, rfl⟩
  have isT : ∀ b, b ∈ cs.map (·.2) → s₁.heap.get? b = some { cls := .none, data := .fields #[] } ∧ K.lookup b = none := fun b hb => by
    obtain ⟨p, hp, rfl⟩ := List.mem_map.mp hb
    exact ⟨L.tab p hp, L.tabK p hp⟩
  have aT : a ∉ cs.map (·.2) := fun z => by
    have q := (isT a z).1
    rw [ha] at q
    have z' : Data.seq vs.toArray _ = Data.fields #[] := congrArg Obj.data (Option.some.inj q)
    cases z'
  have atT : ∀ b, b ∈ cs.map (·.2) → H b = some (.tbl #[]) := fun b hb => by
    have hba : b ≠ a := fun z => aT (z ▸ hb)
    rw [hH]
    show (if b = a then _ else _) = _
    rw [if_neg hba, if_pos hb]
  have atA : H a = if K.lookup a = none then some (.frz o (.lst (ns.map V.int))) else none := by
    rw [hH]
    exact if_pos rfl
  have atN : ∀ b, b ≠ a → b ∉ cs.map (·.2) → H b = none := fun b h1 h2 => by
    rw [hH]
    show (if b = a then _ else _) = _
    rw [if_neg h1, if_neg h2]
  have inv : ∀ b u, H b = some u → (b = a ∧ K.lookup a = none ∧ u = .frz o (.lst (ns.map V.int))) ∨ (b ∈ cs.map (·.2) ∧ u = .tbl #[]) := fun b u e => by
    by_cases h1 : b = a
    · subst h1
      rw [atA] at e
      by_cases hk : K.lookup b = none
      · rw [if_pos hk] at e
        exact .inl ⟨rfl, hk, (Option.some.inj e).symm⟩
      · rw [if_neg hk] at e
        cases e
    · by_cases h2 : b ∈ cs.map (·.2)
      · rw [atT b h2] at e
        exact .inr ⟨h2, (Option.some.inj e).symm⟩
      · rw [atN b h1 h2] at e
        cases e
  -- tracked things are lists or tables
  have free_ : ∀ {b : Addr} {ob : Obj}, s₁.heap.get? b = some ob → (∀ xs n, ob.data ≠ .seq xs n) → ob.data ≠ .fields #[] → H b = none := fun {b ob} e h1 h2 => by
    cases q : H b with
    | none => rfl
    | some u =>
      rcases inv b u q with ⟨rfl, _⟩ | ⟨hb, _⟩
      · rw [ha] at e
        cases e
        exact (h1 _ _ rfl).elim
      · rw [(isT b hb).1] at e
        cases e
        exact (h2 rfl).elim
  have freeD : ∀ {b : Addr} {ob : Obj} {es : Array DictEntry} {ep : Nat}, s₁.heap.get? b = some ob → ob.data = .dict es ep → H b = none := fun {b ob es ep} e d => free_ e (fun xs n z => by rw [d] at z; cases z) fun z => by rw [d] at z; cases z
  have nsK : ∀ {b : Addr} {m : Str → Option Value}, s₁.heap.Ns b m → (hidT s₁.heap H).Ns b m := fun {b m} ⟨ob, es, ep, e, d, r⟩ => ⟨ob, es, ep, hidT_get e (freeD e d), d, r⟩
  have hKb : K.In (hidT s₁.heap H) := fun b ob e => hidT_get (L.kin b ob e) (by
    cases q : H b with
    | none => rfl
    | some u =>
      rcases inv b u q with ⟨rfl, hk, _⟩ | ⟨hb, _⟩
      · rw [hk] at e; cases e
      · rw [(isT b hb).2] at e; cases e)
  have hok : HOk P w H s₁.heap := fun b u e => by
    rcases inv b u e with ⟨rfl, _, rfl⟩ | ⟨hb, rfl⟩
    · exact ⟨by rw [ho]; exact ha, by rw [List.length_map]; exact hl, vs, _, rv, ha⟩
    · exact (isT b hb).1
  have hM : L2.Mod K mg (hidT s₁.heap H) := ⟨hKb, nsK L.glob, ⟨mb, nsK L.blt, L.bltv⟩, let ⟨mc, h1, h2⟩ := L.lim; ⟨mc, nsK h1, h2⟩⟩
  have TB : ∀ p ∈ cs, LamX.TabB (hidT s₁.heap H) mg p.1 p.2 := fun p hp => by
    have hTp := L.tab p hp
    refine ⟨?_, ?_, fun z => ?_⟩
    · obtain ⟨ob, us, file, tf, flags, tg, inF, text, tt, e1, r1, r2, r3, r4, r5, r6, r7, r8, hne⟩ := L.code p hp
      refine ⟨ob, us, file, tf, flags, tg, inF, text, tt, hidT_get e1 (free_ e1 (fun xs n z => ?_) fun z => ?_), r1, r2, r3, r4, r5, r6, r7, r8, hne⟩
      · rw [r2] at z; cases z
      · rw [r2] at z
        cases z
        simp at r3
    · obtain ⟨bm, ob, b1, b2, b3, b4, b5, b6⟩ := L.bm
      refine ⟨bm, ob, b1, b2, fun q => ?_, fun q => ?_, hidT_get b3 (free_ b3 (fun xs n z => ?_) fun z => ?_), b4, b5, b6⟩
      · obtain ⟨og, es, ep, e, hd, _⟩ := L.glob
        rw [q, e] at b3
        cases b3
        rw [hd] at b6
        cases b6
      · rw [q, hTp] at b3
        cases b3
        cases b6
      · rw [b6] at z; cases z
      · rw [b6] at z; cases z
    · obtain ⟨og, es, ep, e, hd, _⟩ := L.glob
      rw [z, hTp] at e
      cases e
      cases hd
  have e0 : Env0 P w K mg (hidT s₁.heap H) callerA [] s₁ H := ⟨rfl, hM, fun b ob e => of_hidT e, Nat.le_of_eq (hidT_size _ _), trivial, fun b hb => absurd (show b ∈ ([] : List Addr) from hb) (by simp), hok, .of_eq L.gens⟩
  have pb : PenB (fun b => ∃ u, H b = some u) H 0 := ⟨fun b c p e => (by rcases inv b _ e with ⟨_, _, z⟩ | ⟨_, z⟩ <;> cases z), fun b h => h, fun Q ps e => by
    rcases inv Q _ e with ⟨_, _, z⟩ | ⟨_, z⟩
    · cases z
    · cases z
      exact ⟨True.intro, fun pos cv z => by
        have z : codeAmong pos [] = some cv := z
        simp [codeAmong] at z⟩⟩
  have hscr : Has (fun b => ∃ u, H b = some u) H (.ref a) (.scr K ns (cs.map (·.2))) := .scr (by
    cases hk : K.lookup a with
    | none => exact .inl ⟨o, ⟨_, by rw [atA, if_pos hk]⟩, by rw [atA, if_pos hk]⟩
    | some oo =>
      have e := L.kin a oo hk
      rw [ha] at e
      cases e
      exact .inr fun H' => .inr ⟨_, vs.toArray, _, hk, rfl, rfl, rfl, by rw [List.size_toArray, lenV]; exact hl, by simpa using rv⟩) fun T hT => ⟨⟨_, atT T hT⟩, _, atT T hT⟩
  refine codeAny_mono ((F _ hKb (nsK L.glob) TB).run callerA [] s₁ H ⟨[.ref a], []⟩ [.ref a] [.ref a] (fun v _ => v = .bl true) (fun _ _ _ => False) rfl hr e0 (hbind s₁ (.ref a)) (.cons rfl .nil)
    ⟨rfl, _, 0, _, _, _, pb, .cons hscr .nil, hw, fun v d F' H' n' g hv hd => by subst hd; cases hv; rfl, fun _ _ _ _ _ _ _ _ z => z⟩) fun r s' h => ?_
  cases r with
  | error e =>
    obtain ⟨_, _, _, _, _, _, _, _, _, _, _, _, z⟩ := h
    exact z.elim
  | ok fl =>
    cases fl with
    | next => exact False.elim h
    | brk => exact False.elim h
    | cont => exact False.elim h
    | ret u =>
      obtain ⟨v, H', os, bare, un, hok', r', q⟩ := h
      have q' : v = .bl true := q
      subst q'
      obtain rfl : u = Value.bool true := r'
      have grown : ∀ p ∈ cs, ∃ more : Array Value, s'.heap.get? p.2 = some { cls := .none, data := .fields more } := fun p hp => by
        obtain ⟨more, z⟩ := un.tbls p.2 #[] (atT p.2 (List.mem_map.mpr ⟨p, hp, rfl⟩))
        exact ⟨_, hok' p.2 _ z⟩
      have key : ∀ b ob, b ∉ cs.map (·.2) → s₁.heap.get? b = some ob → s'.heap.get? b = some ob := fun b ob nb e => by
        cases q : H b with
        | none => exact un.keep b ob e q (by intro z; exact absurd (show b ∈ ([] : List Addr) from z) (by simp)) (by simp)
        | some u =>
          rcases inv b u q with ⟨rfl, _, rfl⟩ | ⟨hb, _⟩
          · have z2 := un.frzs b o _ q
            obtain ⟨e1, _⟩ := hok b _ q
            obtain ⟨e2, _⟩ := hok' b _ z2
            rw [e] at e1
            cases e1
            exact e2
          · exact absurd hb nb
      refine ⟨rfl, ⟨fun b ob e => ?_, fun b ob e => ?_⟩, os, bare⟩
      · by_cases hb : b ∈ cs.map (·.2)
        · obtain ⟨p, hp, rfl⟩ := List.mem_map.mp hb
          obtain ⟨more, hm⟩ := grown p hp
          rw [L.tab p hp] at e
          cases e
          exact .inr (.inl ⟨((L.code p hp).tab (L.tab p hp)).isCodeTable, rfl, #[], more, rfl, by rw [Array.empty_append]; exact hm⟩)
        · exact .inl (key b ob hb e)
      · by_cases hb : b ∈ cs.map (·.2)
        · obtain ⟨p, hp, rfl⟩ := List.mem_map.mp hb
          obtain ⟨more, hm⟩ := grown p hp
          exact ⟨_, hm⟩
        · exact ⟨ob, key b ob hb e⟩

/-- what is known of the law's promise at the head's heap h -/
def LawAtG (l : PySem.W.OpenLaw) (w : World) (K : PySem.W.Frag) (k n : Nat) (x : Str) (mg : Str → Option Value) (fa : Addr) (h : Heap) : Prop :=
  ∃ (fd : FuncData) (cs : List (Addr × Addr)) (lw : List D → Wm D), (∀ p ∈ cs, h.get? p.2 = some { cls := .none, data := .fields #[] }) ∧ (∀ p ∈ cs, K.lookup p.2 = none) ∧ (∀ p ∈ cs, PySem.W.CodeHd h p.1 p.2) ∧ (∀ (s : Shared) (u : Value), BindsTo s fd ⟨[u], []⟩ [(x, u)]) ∧
    (∀ ns : List Int, ns.length ≤ n → (∀ z ∈ ns, Builtin.Int.intBits z ≤ 1048576) → lw [.scr K ns (cs.map (·.2))] (fun d _ => d = .bl true) XFalse 0) ∧
    ∀ base : Heap, K.In base → base.Ns mainGlobals mg → (∀ p ∈ cs, LamX.TabB base mg p.1 p.2) → FnG l.prog w K mg base k fa fd [x] (spD 1 lw)
theorem walk_ofG {l : PySem.W.OpenLaw} {n k : Nat} {q : Program} {loose : List Str} {XP : (Str → Option Value) → Heap → Prop} {YP : World → Heap → Prop} {d : DefRec} {K : Params → PySem.W.Frag} {x : Str}
    (hn : l.most = some n) (hn2 : n ≤ sizeLine) (hdf : d.params.defaults = []) (hr : Room k callerA) (hY : ∀ (w : World) (h : Heap), YP w h → (K w.params).In h)
    (F : ∀ (w : World) (mg : Str → Option Value) (fa : Addr) (h : Heap), YP w h → (K w.params).In h → h.Ns mainGlobals mg → mg d.name = some (.ref fa) → LawAtG l w (K w.params) k n x mg fa h) :
    PySem.W.WalkO q loose XP YP l.row.toRowW d [] (fun f vs => PySem.call f vs) := by
  refine Att.attach_callB hn hdf fun w s₀ s₁ mg mb fa o pm cd doc a vs ns G Y ho hd hcd hmg hobj hints hlen hbits hg => ?_
  have KX := hY w _ Y
  obtain ⟨fd, cs, lw, hT, nT, C, hb, hsp, hF⟩ := F w mg fa _ Y KX G.T.g hmg
  exact law_callG ⟨KX, G.T.g, G.T.b, G.T.builtins, G.T.nolimit, hg, hT, nT, C, G.T.bmain⟩ hobj hints (Nat.le_trans hlen hn2) hr hF hb (hsp ns hlen hbits)
end DL


set_option maxRecDepth 100000
set_option maxHeartbeats 2000000
/-! DL11: further words. Own work over HandS. -/
namespace DL
open PySem PySem.Spec PyProof.Rows L2

section
variable {ι : Type} {X : ι → Cx} {W : WX}
/-! ### isinstance with a tuple of classes -/
theorem DE.isiT {a : Expr} {Ts : List Expr} {cs : List V} {us : List Value} {t : TD D} {tT : TA} {p pos tp : Pos} {x1 : Nat} {K : PySem.W.Frag} (hK : ∀ i, (X i).K = K) (hT : ∀ i, PA (X i) Ts tT) (hTr : ∀ σ H Q, Q cs H → tT σ H Q) (hc : Paired ClsV cs us) (hl : cs.length ≤ 100) (hg : ∀ i, Gl (X i) "isinstance") (hm : ∀ i, (X i).mg "isinstance" = none) (h : DE X W a t)
    (h1 : ∀ i, starEach [a, .Tuple Ts x1 tp] (X i).env = (false, eval a (X i).env) :: starEach [.Tuple Ts x1 tp] (X i).env := by intro _; rfl) (h2 : ∀ i, starEach [.Tuple Ts x1 tp] (X i).env = (false, eval (.Tuple Ts x1 tp) (X i).env) :: starEach [] (X i).env := by intro _; rfl)
    (hpl : ∀ i, (backTo pos (starEach [.Tuple Ts x1 tp] (X i).env)).any (·.1) = false := by intro _; rfl) : DE X W (.Call (.Name "isinstance" p) [a, .Tuple Ts x1 tp] [] pos) (fun ρ => do fIsi K us (← t ρ)) := by
  obtain ⟨te, pe, r⟩ := h
  refine ⟨tCB (rIsiT K) (tCons te (tCons (tTup tT) tNil)), fun i => by rw [← hK i]; exact pe_callB call_isiT (hg i) (hm i) (by decide +kernel) (pa_cons (pe i) (pa_cons (pe_tup (hT i)) pa_nil (h2 i)) (h1 i)) (by decide) (by decide) (h1 i) (hpl i), fun F H n σ ρ Kd Kx Q hs ht hq hx => ?_⟩
  refine r F H n σ ρ _ Kx _ hs ht (fun v d F1 H1 n1 g1 hv ht1 => ?_) hx
  obtain ⟨ok, hk⟩ := ht1
  refine hTr σ H1 _ ⟨by rw [sizeLine_eq]; omega, fun q hq0 => ?_⟩
  cases e : PySem.W.kitAny K (tyD d) us with
  | none => rw [e] at hk; exact hk.elim
  | some b =>
    rw [e] at hk
    have g : Grow F1 H1 n1 F1 (upd H1 q (.tup cs)) n1 := ⟨(Grow.laid g1.pb hq0 .tup).keep, fun _ f => f, fun _ f => .inl f, g1.pb.put (g1.pb.out hq0) .tup, Nat.le_refl _⟩
    exact ⟨v, q, cs, tyD d, us, b, rfl, upd_same, hc, (hv.mono g).tyX ok, e, hq _ _ F1 _ n1 (g1.trans g) (.bl b) hk⟩
/-! ### x.bit_length() -/
def fBits : D → Wm D
  | .int i => pure (.int (Builtin.Int.intBits i : Nat))
  | _ => Wm.fail
theorem DE.bits {o : Expr} {t : TD D} {apos pos : Pos} (h : DE X W o t) (hbase : ∀ i, attributeBase o "bit_length" (X i).env (eval o (X i).env) = eval o (X i).env := by intro _; rfl) (hline : (apos.endLine == pos.line) = true := by rfl) :
    DE X W (.Call (.Attribute o "bit_length" apos) [] [] pos) (fun ρ => do fBits (← t ρ)) := by
  obtain ⟨te, p, r⟩ := h
  refine ⟨_, fun i => pe_bits (p i) (hbase i) hline, fun F H n σ ρ Kd Kx Q hs ht hq hx => ?_⟩
  refine r F H n σ ρ _ Kx _ hs ht (fun v d F1 H1 n1 g1 hv ht1 => ?_) hx
  cases hv <;> try exact ht1.elim
  exact ⟨_, rfl, hq _ _ F1 H1 n1 g1 (.int _) ht1⟩
/-! ### {} -/
theorem DE.dnew {pos : Pos} : DE X W (.Dict [] [] pos) (fun _ => pure (.dic [] [])) := ⟨_, fun _ => pe_dnewK, fun F H n σ ρ Kd Kx Q hs ht hq hx p hp => by
  have g : Grow F H n (plusF F p) (upd H p (.dK [])) n := .laid hs.pb hp (.dK rfl)
  exact hq _ (.dic [] []) _ _ n g (.dic plusF_same upd_same rfl rfl .nil) ht⟩
/-! ### a, b = x, y; plain locals -/
def dPar (i j : Nat) (t : TD (List D)) : TDS := fun E ρ n => t ρ (fun ds n' => match ds with
  | [d, e] => E.nx ((ρ.set i (some (.d d))).set j (some (.d e))) n'
  | _ => False) (fun x n' => E.ex x ρ n') n
theorem DS.par {i j : Nat} {x y : Str} {a b : Expr} {ta : TD (List D)} {px py pt pos : Pos} {kt k2 pt2} (hc : ∀ k, (X k).calm = true) (hN : ∀ k, (X k).N.Nodup) (hi : ∀ k, (X k).N[i]? = some x) (hj : ∀ k, (X k).N[j]? = some y) (hij : i ≠ j)
    (hx : ∀ k, (X k).env.scope.names.lookup x = some .local) (hy : ∀ k, (X k).env.scope.names.lookup y = some .local) (ha : DA X W [a, b] ta)
    (hw : ∀ k, swappedStores [.Tuple [.Name x px, .Name y py] kt pt] (.Tuple [a, b] k2 pt2) (X k).env = pure (some [x, y]))
    (hs : ∀ k, swapsWithSole [.Tuple [.Name x px, .Name y py] kt pt] (.Tuple [a, b] k2 pt2) pos.line (X k).env = pure false := by intro _; rfl) :
    DS X W (.Assign [.Tuple [.Name x px, .Name y py] kt pt] (.Tuple [a, b] k2 pt2) pos) (dPar i j ta) := by
  obtain ⟨tA, p, r⟩ := ha
  refine ⟨_, fun k => ps_par (hc k) (hN k) (hi k) (hj k) hij (hx k) (hy k) (p k) (hw k) (hs k), fun B F H n σ ρ E Z s h eo => ?_⟩
  refine r F H n σ ρ _ _ _ s.hs h (fun vs ds F' H' n' g hv hk => ?_) fun cls od x F' H' n' g hx he => eo.ex cls od x σ ρ F' H' n' (s.mono g) g.later hx he
  match ds, hk with
  | [d, e], hk =>
    cases hv with
    | cons h1 hv =>
    cases hv with
    | cons h2 hv =>
    cases hv
    exact ⟨_, _, rfl, eo.nx _ _ F' H' n' (((s.mono g).set h1).set h2) g.later hk⟩
end
/-- a conjunction's rows as they come: x and (y and z) of values -/
theorem pyD_int {i : Int} : pyD (.int i) = .int i := by unfold pyD; rfl
end DL


set_option maxRecDepth 100000
set_option maxHeartbeats 2000000
/-! DL12: defs by name; the monad's rows. Own work. -/
namespace DL
open PySem PySem.Spec PyProof.Rows L2
/-- a def of one's own, by its name -/
structure DefG (P : Program) (w : World) (K : PySem.W.Frag) (mg : Str → Option Value) (base : Heap) (x : Str) (ps : List Str) (k : Nat) (wf : List D → Wm D) : Prop where
  ex : ∃ f fd, FnG P w K mg base k f fd ps (spD ps.length wf) ∧ mg x = some (.ref f) ∧ PySem.W.keepIn K (.ref f) = true ∧ Binds K fd ps []
/-- by its text -/
structure DefF (K : PySem.W.Frag) (mg : Str → Option Value) (x : Str) (st : Stmt) (ps : List Str) : Prop where
  ex : ∃ f fd, Fun K x x st f fd ∧ mg x = some (.ref f) ∧ Binds K fd ps []
section
variable {P : Program} {w : World} {K : PySem.W.Frag} {mg : Str → Option Value} {base : Heap}
theorem def_ok {x : Str} {st : Stmt} {N ps : List Str} {k : Nat} {t : TDS} {w' : List D → Wm D} (F : DefF K mg x st ps) (S : FnScope N ps (defScope st))
    (hbody : ∀ (f : Addr) (cdv : Value) (A : Around) (outer : List Env) (s : Shared) (H : Hp) (E : XK), A.guards = some [] → Room k (A.deeper (envOfC x (defScope st) s.heap.objs.size f cdv)) → DSs (bCx P w K mg base N x st f cdv A outer s H E) (bW E) (defBody st) t)
    (hw : ∀ ds Kd Kx n, ds.length = ps.length → w' ds Kd Kx n → bodyW t N.length ds Kd Kx n) : DefG P w K mg base x ps (k + 1) w' := by
  obtain ⟨f, fd, F, m, b⟩ := F.ex
  exact ⟨f, fd, fn_ok F S (hbody f) hw, m, F.kp, b⟩
theorem def_draw {x : Str} {st : Stmt} {N ps : List Str} {k : Nat} (F : DefF K mg x st ps) (S : FnScope N ps (defScope st)) (hN : N.length = 5) (hps : ps.length = 2)
    (hbody : ∀ (f : Addr) (cdv : Value) (A : Around) (outer : List Env) (s : Shared) (H : Hp) (E : XK), A.guards = some [] → Room k (A.deeper (envOfC x (defScope st) s.heap.objs.size f cdv)) → PSs (cxOf (L2.CX P w) P w K mg base N x (defScope st) f cdv A outer s H E) (defBody st) (tDraw K)) :
    DefG P w K mg base x ps (k + 1) drawW := by
  obtain ⟨f, fd, F, m, b⟩ := F.ex
  exact ⟨f, fd, by rw [hps]; exact draw_ok F S hN hps (hbody f), m, F.kp, b⟩
end
/-! ### more operators -/
def fInt0 (g : Int → Int → Int) : D → D → Wm D
  | .int i, .int j => pure (.int (g i j))
  | _, _ => Wm.fail
theorem sem_int0 {g : Int → Int → Int} : Sem2 (rI0 fun i j => .int (g i j)) (fInt0 g) := by
  intro F H n x y a b K Q pb hx hy ht hq
  cases hx <;> cases hy <;> first | exact ht.elim | skip
  exact ⟨_, _, rfl, rfl, hq _ _ F H n (.refl pb) (.int _) ht⟩
def nonB : D → Bool
  | .non => true
  | _ => false
theorem Has.nonB {F : Addr → Prop} {H : Hp} {v : V} {d : D} (h : Has F H v d) : decide (v = .non) = nonB d := by
  cases h <;> simp [DL.nonB]
def fIsN : D → D → Wm D
  | d, .non => pure (.bl (nonB d))
  | _, _ => Wm.fail
def fNotN : D → D → Wm D
  | d, .non => pure (.bl (!nonB d))
  | _, _ => Wm.fail
theorem sem_isN : Sem2 (fun x y H Q => y = .non ∧ Q (.bl (decide (x = .non))) H) fIsN := by
  intro F H n x y a b K Q pb hx hy ht hq
  cases hy <;> try exact ht.elim
  exact ⟨rfl, by rw [hx.nonB]; exact hq _ _ F H n (.refl pb) (.bl _) ht⟩
theorem sem_notN : Sem2 (fun x y H Q => y = .non ∧ Q (.bl (!decide (x = .non))) H) fNotN := by
  intro F H n x y a b K Q pb hx hy ht hq
  cases hy <;> try exact ht.elim
  exact ⟨rfl, by rw [hx.nonB]; exact hq _ _ F H n (.refl pb) (.bl _) ht⟩
/-! ### == , != -/
def sclE : D → D → Option Bool
  | .int i, .int j => some (decide (i = j))
  | .str i, .str j => some (decide (i = j))
  | .bl i, .bl j => some (decide (i = j))
  | .non, .non => some true
  | _, _ => none
def fEqA (d e : D) : Wm D := match sclE d e with
  | some b => pure (.bl b)
  | none => fEq d e
def fNeA (d e : D) : Wm D := match sclE d e with
  | some b => pure (.bl (!b))
  | none => fNe d e
def rEqA (K : PySem.W.Frag) : R2 := fun x y H Q => rEq x y H Q ∨ rEqD K x y H Q
def rNeA (K : PySem.W.Frag) : R2 := fun x y H Q => rNe x y H Q ∨ rNeD K x y H Q
theorem op_eqA {X : Cx} (hu : X.A.units + 64 < cLine) : OpR X (compareOp .Eq) (rEqA X.K) := op_eq.or (op_eqD hu)
theorem op_neA {X : Cx} (hu : X.A.units + 64 < cLine) : OpR X (compareOp .NotEq) (rNeA X.K) := op_ne.or (op_neD hu)
theorem scl_has {F : Addr → Prop} {H : Hp} {x y : V} {a b : D} {c : Bool} (hx : Has F H x a) (hy : Has F H y b) (e : sclE a b = some c) : scal x y = true ∧ decide (x = y) = c := by
  cases hx <;> cases hy <;> first | (cases e; done) | skip
  case non.non => cases e; exact ⟨rfl, by simp⟩
  case bl.bl i j => cases e; exact ⟨rfl, by simp⟩
  case int.int i j => cases e; exact ⟨rfl, by simp⟩
  case str.str i j => cases e; exact ⟨rfl, by simp⟩
theorem sem_eqA {K : PySem.W.Frag} : Sem2 (rEqA K) fEqA := by
  intro F H n x y a b Kd Q pb hx hy ht hq
  unfold fEqA at ht
  cases e : sclE a b with
  | some c =>
    rw [e] at ht
    obtain ⟨h1, h2⟩ := scl_has hx hy e
    exact .inl ⟨h1, by rw [h2]; exact hq _ _ F H n (.refl pb) (.bl _) ht⟩
  | none =>
    rw [e] at ht
    exact .inr (sem_eq F H n x y a b Kd Q pb hx hy ht hq)
theorem sem_neA {K : PySem.W.Frag} : Sem2 (rNeA K) fNeA := by
  intro F H n x y a b Kd Q pb hx hy ht hq
  unfold fNeA at ht
  cases e : sclE a b with
  | some c =>
    rw [e] at ht
    obtain ⟨h1, h2⟩ := scl_has hx hy e
    exact .inl ⟨h1, by rw [h2]; exact hq _ _ F H n (.refl pb) (.bl _) ht⟩
  | none =>
    rw [e] at ht
    exact .inr (sem_ne F H n x y a b Kd Q pb hx hy ht hq)
/-! ### the monad's rows -/
section
variable {α β : Type} {K : α → Nat → Prop} {Kb : β → Nat → Prop} {X : XD → Nat → Prop} {n : Nat}
theorem w_bind {m : Wm α} {f : α → Wm β} : (m >>= f) Kb X n = m (fun a n' => f a Kb X n') X n := rfl
theorem w_pure {a : α} : (pure a : Wm α) K X n = K a n := rfl
theorem w_need {p : Prop} {Ku : Unit → Nat → Prop} : Wm.need p Ku X n = (p ∧ Ku () n) := rfl
theorem w_fail : (Wm.fail : Wm α) K X n = False := rfl
theorem w_raise {x : XD} : (Wm.raise x : Wm α) K X n = X x n := rfl
theorem w_calm {m : Wm α} : calm m K X n = m K XFalse n := rfl
theorem w_ite {p : Prop} [Decidable p] {a b : Wm α} : (if p then a else b) K X n = if p then a K X n else b K X n := by split <;> rfl
end
theorem s_seq {t u : TDS} {E : DEnds} {ρ : Env'} {n : Nat} : dSeq t u E ρ n = t { E with nx := fun ρ' n' => u E ρ' n' } ρ n := rfl
theorem s_next {E : DEnds} {ρ : Env'} {n : Nat} : dNext E ρ n = E.nx ρ n := rfl
theorem s_onE {m : TD D} {k : D → Env' → Nat → Prop} {E : DEnds} {ρ : Env'} {n : Nat} : onE m k E ρ n = m ρ (fun d n' => k d ρ n') (fun x n' => E.ex x ρ n') n := rfl
theorem s_onT {m : TD Bool} {k : Bool → Env' → Nat → Prop} {E : DEnds} {ρ : Env'} {n : Nat} : onT m k E ρ n = m ρ (fun d n' => k d ρ n') (fun x n' => E.ex x ρ n') n := rfl
theorem s_asg {m : TD D} {k : Nat} {E : DEnds} {ρ : Env'} {n : Nat} : dAsg m (dName k) E ρ n = m ρ (fun d n' => E.nx (ρ.set k (some (.d d))) n') (fun x n' => E.ex x ρ n') n := rfl
theorem g_0 {x : D} {r : Env'} : getD 0 (some (.d x) :: r) = pure x := rfl
theorem g_s {x : Option SV} {i : Nat} {r : Env'} : getD (i + 1) (x :: r) = getD i r := rfl
theorem forD_inv {g : TDG} {tb : TDS} {E : DEnds} (I : Nat → Env' → Nat → Prop) : ∀ (ds : List D) (ρ : Env') (n : Nat), I ds.length ρ n → (∀ ρ n, I 0 ρ n → E.nx ρ n) →
    (∀ (k : Nat) (d : D) (ρ : Env') (n : Nat) (E' : DEnds), d ∈ ds → I (k + 1) ρ n → (∀ ρ n, I k ρ n → E'.nx ρ n) → (∀ ρ n, E.nx ρ n → E'.bk ρ n) → E'.rt = E.rt → E'.ex = E.ex → match g d ρ with | some ρ' => tb E' ρ' n | none => False) → forD g tb ds E ρ n
  | [], ρ, n, h, h0, _ => h0 ρ n h
  | d :: ds, ρ, n, h, h0, hs => by
    have z := hs ds.length d ρ n { E with nx := fun ρ'' n'' => forD g tb ds E ρ'' n'', ct := fun ρ'' n'' => forD g tb ds E ρ'' n'', bk := E.nx } List.mem_cons_self h (fun ρ n hi => forD_inv I ds ρ n hi h0 fun k d' ρ n E' hd => hs k d' ρ n E' (List.mem_cons_of_mem _ hd)) (fun _ _ z => z) rfl rfl
    unfold forD
    exact z

/-! ### written data -/
theorem DE.weak {ι : Type} {X : ι → Cx} {W : WX} {e : Expr} {t t' : TD D} (h : DE X W e t) (hw : ∀ ρ K Xx n, t' ρ K Xx n → t ρ K Xx n) : DE X W e t' := by
  obtain ⟨te, p, r⟩ := h
  exact ⟨te, p, fun F H n σ ρ K Kx Q hs ht hq hx => r F H n σ ρ K Kx Q hs (hw ρ K Kx n ht) hq hx⟩
theorem DA.weak {ι : Type} {X : ι → Cx} {W : WX} {es : List Expr} {t t' : TD (List D)} (h : DA X W es t) (hw : ∀ ρ K Xx n, t' ρ K Xx n → t ρ K Xx n) : DA X W es t' := by
  obtain ⟨te, p, r⟩ := h
  exact ⟨te, p, fun F H n σ ρ K Kx Q hs ht hq hx => r F H n σ ρ K Kx Q hs (hw ρ K Kx n ht) hq hx⟩
def constD : Nat → Expr → Option D
  | 0, _ => none
  | k + 1, e => match e with
    | .Constant (.int i) _ _ => some (.int i)
    | .Constant (.bool b) _ _ => some (.bl b)
    | .Constant (.str x) _ _ => some (.str x)
    | .Constant .none _ _ => some .non
    | .UnaryOp .USub (.Constant (.int i) _ _) _ => some (.int (-i))
    | .Tuple es _ _ => if es.length ≤ 1000 then (es.foldr (fun e acc => (constD k e).bind fun d => acc.map (d :: ·)) (some [])).map .tup else none
    | .List es _ => if es.length ≤ 1000 then (es.foldr (fun e acc => (constD k e).bind fun d => acc.map (d :: ·)) (some [])).map .lst else none
    | .Dict [] [] _ => some (.dic [] [])
    | _ => none
theorem plain_const {k : Nat} {e : Expr} {d : D} (h : constD k e = some d) : plainE e = true := by
  cases k with
  | zero => cases h
  | succ k => cases e <;> first | rfl | (unfold constD at h; cases h)
section
variable {ι : Type} {X : ι → Cx} {W : WX}
theorem DA.cst {k : Nat} (ih : ∀ {e : Expr} {d : D}, constD k e = some d → DE X W e (fun _ => pure d)) : ∀ {es : List Expr} {ds : List D}, es.foldr (fun e acc => (constD k e).bind fun d => acc.map (d :: ·)) (some []) = some ds → DA X W es (fun _ => pure ds) ∧ ds.length = es.length
  | [], ds, h => by cases h; exact ⟨.nil, rfl⟩
  | e :: es, ds, h => by
    rw [List.foldr_cons] at h
    obtain ⟨d, h1, h⟩ := Option.bind_eq_some_iff.mp h
    obtain ⟨r, h2, h⟩ := Option.map_eq_some_iff.mp h
    subst h
    obtain ⟨a, l⟩ := DA.cst ih h2
    exact ⟨(DA.cons (ih h1) a (plain_const h1)).weak fun ρ K Xx n h => h, by simp [l]⟩
theorem DE.cstk : ∀ (k : Nat) {e : Expr} {d : D}, constD k e = some d → DE X W e (fun _ => pure d)
  | 0, _, _, h => by cases h
  | k + 1, e, d, h => by
    unfold constD at h
    split at h
    · cases h; exact .int
    · cases h; exact .bl
    · cases h; exact .str
    · cases h; exact .non
    · cases h
      exact (DE.op1 (fun _ _ p => pe_un un_neg p) sem_neg DE.int).weak fun ρ K Xx n h => h
    · split at h
      · rename_i hl
        obtain ⟨ds, h1, h⟩ := Option.map_eq_some_iff.mp h
        subst h
        obtain ⟨a, l⟩ := DA.cst (DE.cstk k) h1
        exact (DE.tup a).weak fun ρ K Xx n h => ⟨by unfold Fits; rw [l, sizeLine_eq]; omega, h⟩
      · cases h
    · split at h
      · rename_i hl
        obtain ⟨ds, h1, h⟩ := Option.map_eq_some_iff.mp h
        subst h
        obtain ⟨a, l⟩ := DA.cst (DE.cstk k) h1
        exact (DE.lst a).weak fun ρ K Xx n h => ⟨by unfold Fits; rw [l, sizeLine_eq]; omega, h⟩
      · cases h
    · cases h; exact .dnew
    · cases h
theorem DE.cst {e : Expr} (d : D) (h : constD 6 e = some d) : DE X W e (fun _ => pure d) := DE.cstk 6 h
end
end DL


set_option maxRecDepth 100000
set_option maxHeartbeats 2000000
/-! DL13: reductions of the monad's rows; errors by name. Own work. -/
namespace DL
open PySem PySem.Spec PyProof.Rows L2
structure ErrG (P : Program) (w : World) (K : PySem.W.Frag) (mg : Str → Option Value) (base : Heap) (x : Str) (C : Addr) (fs : List Str) (k : Nat) : Prop where
  ex : ∃ fI fd ps, OexC K C ∧ PySem.W.findIn K (.ref C) "__init__" = some (some (.ref fI)) ∧ PySem.W.typeIn K (.ref fI) = some (.type "function") ∧ FnOk P w K mg base (L2.CX P w) k fI fd ps (spInit C fs) ∧ Binds K fd ps [] ∧ mg x = some (.ref C)
theorem _root_.L2.Room.room1 {k : Nat} {A : Around} (r : Room k A) : A.units + 1 < cLine := by have := r.units; omega
theorem s_body {t : TDS} {N : Nat} {ds : List D} {Kd : D → Nat → Prop} {X : XD → Nat → Prop} {n : Nat} : bodyW t N ds Kd X n = t { nx := fun _ n' => Kd .non n', rt := Kd, bk := fun _ _ => False, ct := fun _ _ => False, ex := fun x _ n' => X x n' } (ds.map (fun d => some (.d d)) ++ List.replicate (N - ds.length) none) n := rfl
theorem s_brk {E : DEnds} {ρ : Env'} {n : Nat} : (fun (E : DEnds) (ρ : Env') (n : Nat) => E.bk ρ n) E ρ n = E.bk ρ n := rfl
theorem s_par {i j : Nat} {t : TD (List D)} {E : DEnds} {ρ : Env'} {n : Nat} : dPar i j t E ρ n = t ρ (fun ds n' => match ds with
  | [d, e] => E.nx ((ρ.set i (some (.d d))).set j (some (.d e))) n'
  | _ => False) (fun x n' => E.ex x ρ n') n := rfl
theorem s_for {ti : TD (List D)} {g : TDG} {tb : TDS} {E : DEnds} {ρ : Env'} {n : Nat} : dFor ti g tb E ρ n = ti ρ (fun ds n' => forD g tb ds E ρ n') (fun x n' => E.ex x ρ n') n := rfl
theorem s_raise {C : Addr} {fs : List Str} {t : TD (List D)} {E : DEnds} {ρ : Env'} {n : Nat} : raiseW C fs t E ρ n = t ρ (fun ds n' => ds.length = fs.length ∧ E.ex ⟨C, fs.reverse, ds.reverse⟩ ρ n') (fun x n' => E.ex x ρ n') n := rfl
theorem s_asgG {m : TD D} {g : TDG} {E : DEnds} {ρ : Env'} {n : Nat} : dAsg m g E ρ n = m ρ (fun d n' => match g d ρ with | some ρ' => E.nx ρ' n' | none => False) (fun x n' => E.ex x ρ n') n := rfl
theorem wm_match_bool {b : Bool} {α : Type} {x y : α} : (match b with | true => x | false => y) = if b = true then x else y := by cases b <;> rfl
/-! ### by data -/
theorem fEq_int {i j : Int} {K : D → Nat → Prop} {X : XD → Nat → Prop} {n : Nat} : fEqA (.int i) (.int j) K X n = K (.bl (decide (i = j))) n := rfl
theorem fNe_int {i j : Int} {K : D → Nat → Prop} {X : XD → Nat → Prop} {n : Nat} : fNeA (.int i) (.int j) K X n = K (.bl (!decide (i = j))) n := rfl
theorem fEq_str {i j : Str} {K : D → Nat → Prop} {X : XD → Nat → Prop} {n : Nat} : fEqA (.str i) (.str j) K X n = K (.bl (decide (i = j))) n := rfl
theorem fNe_str {i j : Str} {K : D → Nat → Prop} {X : XD → Nat → Prop} {n : Nat} : fNeA (.str i) (.str j) K X n = K (.bl (!decide (i = j))) n := rfl
theorem fInt_at {C : Int → Int → Prop} {g : Int → Int → Int} {i j : Int} {K : D → Nat → Prop} {X : XD → Nat → Prop} {n : Nat} : fInt C g (.int i) (.int j) K X n = (C i j ∧ K (.int (g i j)) n) := rfl
theorem fInt0_at {g : Int → Int → Int} {i j : Int} {K : D → Nat → Prop} {X : XD → Nat → Prop} {n : Nat} : fInt0 g (.int i) (.int j) K X n = K (.int (g i j)) n := rfl
theorem fAdd_int {i j : Int} {K : D → Nat → Prop} {X : XD → Nat → Prop} {n : Nat} : fAdd (.int i) (.int j) K X n = K (.int (i + j)) n := rfl
theorem fCmp_at {g : Int → Int → Bool} {i j : Int} {K : D → Nat → Prop} {X : XD → Nat → Prop} {n : Nat} : fCmpI g (.int i) (.int j) K X n = K (.bl (g i j)) n := rfl
theorem fNeg_at {i : Int} {K : D → Nat → Prop} {X : XD → Nat → Prop} {n : Nat} : fNeg (.int i) K X n = K (.int (-i)) n := rfl
theorem fLen_tup {ds : List D} {K : D → Nat → Prop} {X : XD → Nat → Prop} {n : Nat} : fLen [.tup ds] K X n = K (.int ds.length) n := rfl
theorem fLen_lst {ds : List D} {K : D → Nat → Prop} {X : XD → Nat → Prop} {n : Nat} : fLen [.lst ds] K X n = K (.int ds.length) n := rfl
theorem atI_0 {α : Type} {x : α} {r : List α} : L2.atI (x :: r) 0 = some x := by
  unfold L2.atI L2.ixN
  simp
theorem fIx_t0 {x : D} {r : List D} {K : D → Nat → Prop} {X : XD → Nat → Prop} {n : Nat} : fIx (.tup (x :: r)) (.int 0) K X n = K x n := by
  show (match L2.atI (x :: r) 0 with
    | some d => (pure d : Wm D)
    | none => Wm.fail) K X n = _
  rw [atI_0]
  rfl
theorem fIx_l0 {x : D} {r : List D} {K : D → Nat → Prop} {X : XD → Nat → Prop} {n : Nat} : fIx (.lst (x :: r)) (.int 0) K X n = K x n := by
  show (match L2.atI (x :: r) 0 with
    | some d => (pure d : Wm D)
    | none => Wm.fail) K X n = _
  rw [atI_0]
  rfl
theorem atI_1 {α : Type} {x y : α} {r : List α} : L2.atI (x :: y :: r) 1 = some y := by
  unfold L2.atI L2.ixN
  simp
  have : (1 : Int) < (r.length : Int) + 1 + 1 := by omega
  simp [this]
theorem fIx_t1 {x y : D} {r : List D} {K : D → Nat → Prop} {X : XD → Nat → Prop} {n : Nat} : fIx (.tup (x :: y :: r)) (.int 1) K X n = K y n := by
  show (match L2.atI (x :: y :: r) 1 with
    | some d => (pure d : Wm D)
    | none => Wm.fail) K X n = _
  rw [atI_1]
  rfl
theorem fIx_l1 {x y : D} {r : List D} {K : D → Nat → Prop} {X : XD → Nat → Prop} {n : Nat} : fIx (.lst (x :: y :: r)) (.int 1) K X n = K y n := by
  show (match L2.atI (x :: y :: r) 1 with
    | some d => (pure d : Wm D)
    | none => Wm.fail) K X n = _
  rw [atI_1]
  rfl
theorem fIntC_at {i : Int} {K : D → Nat → Prop} {X : XD → Nat → Prop} {n : Nat} : fIntC [.int i] K X n = K (.int i) n := rfl
theorem fAbs_at {i : Int} {K : D → Nat → Prop} {X : XD → Nat → Prop} {n : Nat} : fAbs [.int i] K X n = K (.int (if i < 0 then -i else i)) n := rfl
theorem fGcd_at {i j : Int} {K : D → Nat → Prop} {X : XD → Nat → Prop} {n : Nat} : fGcd [.int i, .int j] K X n = K (.int (Nat.gcd i.natAbs j.natAbs : Nat)) n := rfl
theorem fRepr_at {d : D} {K : D → Nat → Prop} {X : XD → Nat → Prop} {n : Nat} : fRepr [d] K X n = (Shows d ∧ K (.str (shw d)) n) := rfl
theorem fBits_at {i : Int} {K : D → Nat → Prop} {X : XD → Nat → Prop} {n : Nat} : fBits (.int i) K X n = K (.int (Builtin.Int.intBits i : Nat)) n := rfl
theorem fIs_at {a b : Bool} {K : D → Nat → Prop} {X : XD → Nat → Prop} {n : Nat} : fIs (.bl a) (.bl b) K X n = K (.bl (decide (a = b))) n := rfl
theorem range_at {j : Int} {K : List D → Nat → Prop} {X : XD → Nat → Prop} {n : Nat} : rangeOf [.int j] K X n = (Small62 j ∧ K (rangeD 0 j.toNat) n) := rfl
theorem fits_small {k : Nat} (h : k ≤ 100000) : Fits k := by unfold Fits; rw [sizeLine_eq]; omega
/-! ### kinds -/
mutual
def baseD : D → Bool
  | .non => true
  | .bl _ => true
  | .int _ => true
  | .str _ => true
  | .tup ds => baseL ds
  | .lst ds => baseL ds
  | .dic _ ds => baseL ds
  | .obj _ _ _ => false
  | .exc _ _ _ => false
  | .pen => false
  | .clo _ _ _ => false
  | .fnA _ => false
  | .scr _ _ _ => false
def baseL : List D → Bool
  | [] => true
  | d :: ds => baseD d && baseL ds
end
def intB : D → Bool
  | .int _ => true
  | .bl _ => true
  | _ => false
def blB : D → Bool
  | .bl _ => true
  | _ => false
def tupB : D → Bool
  | .tup _ => true
  | _ => false
def lstB : D → Bool
  | .lst _ => true
  | _ => false
def strB : D → Bool
  | .str _ => true
  | _ => false
section
variable {Kf : PySem.W.Frag} {d : D} {K : D → Nat → Prop} {X : XD → Nat → Prop} {n : Nat}
theorem isi_all {u : Value} {p : Bool} (h : tyOk Kf d) (e : PySem.W.kitOne Kf (tyD d) u = some p) : fIsi1 Kf u d K X n = K (.bl p) n := by
  show (tyOk Kf d ∧ (match PySem.W.kitOne Kf (tyD d) u with
    | some b => (pure (.bl b) : Wm D)
    | none => Wm.fail) K X n) = _
  rw [e]
  exact propext ⟨fun z => z.2, fun z => ⟨h, z⟩⟩
theorem isi_any {us : List Value} {p : Bool} (h : tyOk Kf d) (e : PySem.W.kitAny Kf (tyD d) us = some p) : fIsi Kf us d K X n = K (.bl p) n := by
  show (tyOk Kf d ∧ (match PySem.W.kitAny Kf (tyD d) us with
    | some b => (pure (.bl b) : Wm D)
    | none => Wm.fail) K X n) = _
  rw [e]
  exact propext ⟨fun z => z.2, fun z => ⟨h, z⟩⟩
theorem isi_int (h : baseD d = true) : fIsi1 Kf (.type "int") d K X n = K (.bl (intB d)) n := by
  cases d <;> first | exact isi_all trivial rfl | (unfold baseD at h; cases h)
theorem isi_bool (h : baseD d = true) : fIsi1 Kf (.type "bool") d K X n = K (.bl (blB d)) n := by
  cases d <;> first | exact isi_all trivial rfl | (unfold baseD at h; cases h)
theorem isi_tuple (h : baseD d = true) : fIsi1 Kf (.type "tuple") d K X n = K (.bl (tupB d)) n := by
  cases d <;> first | exact isi_all trivial rfl | (unfold baseD at h; cases h)
theorem isi_list (h : baseD d = true) : fIsi1 Kf (.type "list") d K X n = K (.bl (lstB d)) n := by
  cases d <;> first | exact isi_all trivial rfl | (unfold baseD at h; cases h)
theorem isi_str (h : baseD d = true) : fIsi1 Kf (.type "str") d K X n = K (.bl (strB d)) n := by
  cases d <;> first | exact isi_all trivial rfl | (unfold baseD at h; cases h)
theorem isi_tl (h : baseD d = true) : fIsi Kf [.type "tuple", .type "list"] d K X n = K (.bl (tupB d || lstB d)) n := by
  cases d <;> first | exact isi_any trivial rfl | (unfold baseD at h; cases h)
end
theorem s_try {K : PySem.W.Frag} {i : Nat} {t : TDS} {cl : List Clause} {E : DEnds} {ρ : Env'} {n : Nat} : dTry K i t cl E ρ n = t { E with ex := fun x ρ' n' => i < ρ'.length ∧ dClauses K E x ρ' n' cl } ρ n := rfl

theorem CloSp.mono {P : Program} {w : World} {K : PySem.W.Frag} {mg : Str → Option Value} {base : Heap} {j k : Nat} {r : CloR} {ds : List D} {m : Wm D} (h : CloSp P w K mg base j r ds m) (hk : j ≤ k) : CloSp P w K mg base k r ds m :=
  fun A outer s H F n f Kd Xd Q E hg hr => h A outer s H F n f Kd Xd Q E hg (hr.mono hk)
theorem lam_free_of {L : Nat} {sc : Scope} {names : List (Str × NameKind)} (h : ∀ y ∈ names, y.2 = .free → sc.names.lookup y.1 = some .cell) : ∀ y ∈ names, y.2 = .free → ∃ c, (cellsFrom L sc.names []).lookup y.1 = some c := fun y hy hf =>
  Option.isSome_iff_exists.mp (PySem.W.cellsFrom_some _ _ _ (.inl (h y hy hf)))
theorem lookup_inj : ∀ {cl : List (Str × Addr)}, (cl.map (·.2)).Nodup → ∀ x y c, cl.lookup x = some c → cl.lookup y = some c → x = y
  | cl, nd, x, y, c, h1, h2 => by
    obtain ⟨i, e1⟩ := ix_of_lookup h1
    obtain ⟨j, e2⟩ := ix_of_lookup h2
    have hi : (cl.map (·.2))[i]? = some c := by rw [List.getElem?_map, e1]; rfl
    have hj : (cl.map (·.2))[j]? = some c := by rw [List.getElem?_map, e2]; rfl
    have hlt : i < (cl.map (·.2)).length := (List.getElem?_eq_some_iff.mp hi).1
    have hij : i = j := (List.getElem?_inj hlt nd).mp (hi.trans hj.symm)
    subst hij
    rw [e1] at e2
    cases e2
    rfl
theorem cloScope_mk {N : List Str} {r : CloR} (kind : r.scope.kind = .function) (co : r.scope.isCoroutine = false) (gen : r.scope.isGenerator = false) (own : ∀ y ∈ r.scope.names, y.2 ≠ .local ∧ y.2 ≠ .cell) (names : r.cl.map (·.1) = N) (nd : N.Nodup) (fr : ∀ p ∈ r.scope.names, p.2 = .free → p.1 ∈ N) (ad : (r.cl.map (·.2)).Nodup)
    (bind : bindArgs (PySem.W.kla_fn "<lambda>" r.qual r.params r.body r.scope r.cl r.pm (.ref r.code) r.ctv) ⟨[], []⟩ = pure []) : CloScope N r :=
  ⟨kind, co, gen, own, names, nd, fun y h => fr _ (PySem.mem_of_lookup h) rfl, lookup_inj ad, bind⟩
/-- the texts of rows of lambdas -/
def lamOfAppend : Stmt → Expr
  | .Expr (.Call _ [.Tuple (e :: _) _ _] _ _) _ => e
  | _ => .Tuple [] 0 ⟨0, 0, 0, 0⟩
def lamOfFirst : Stmt → Expr
  | .Assign _ (.List [.Tuple (e :: _) _ _] _) _ => e
  | _ => .Tuple [] 0 ⟨0, 0, 0, 0⟩
def lamP : Expr → Arguments
  | .Lambda p _ _ _ => p
  | _ => { posonlyargs := [], args := [], vararg := none, kwonlyargs := [], kw_defaults := [], kwarg := none, defaults := [] }
def lamB : Expr → Expr
  | .Lambda _ b _ _ => b
  | e => e
def lamS : Expr → Scope
  | .Lambda _ _ s _ => s
  | _ => { kind := .module, names := [], isGenerator := false, isCoroutine := false, more := [] }
/-- a fold over rows, each turn giving the same -/
theorem lcD_const {g : TDG} {te : TD D} {y0 : D} {ρ : Env'} {n : Nat} {X : XD → Nat → Prop} : ∀ (ts acc : List D) (K : List D → Nat → Prop), acc.length + ts.length < sizeLine → (∀ t ∈ ts, ∃ ρ', g t ρ = some ρ' ∧ ∀ K : D → Nat → Prop, K y0 n → te ρ' K XFalse n) → K (acc ++ List.replicate ts.length y0) n → lcD g (fun _ => pure true) te ts ρ acc K X n
  | [], acc, K, _, _, hk => by
    have hk : K (acc ++ []) n := hk
    rw [List.append_nil] at hk
    exact hk
  | t :: ts, acc, K, hl, h, hk => by
    obtain ⟨ρ', e, ht⟩ := h t List.mem_cons_self
    rw [List.length_cons] at hl
    unfold lcD
    rw [e]
    refine ht _ ⟨by omega, ?_⟩
    refine lcD_const ts (acc ++ [y0]) K (by simp; omega) (fun t' ht' => h t' (List.mem_cons_of_mem _ ht')) ?_
    rw [List.append_assoc]
    exact hk
theorem bools_rep {k : Nat} {b : Bool} : boolsOf (List.replicate k (.bl b)) = some (List.replicate k b) := by
  induction k with
  | zero => rfl
  | succ k ih =>
    rw [List.replicate_succ, List.replicate_succ]
    show (boolOf (.bl b)).bind (fun c => (boolsOf (List.replicate k (.bl b))).map (c :: ·)) = _
    rw [ih]
    rfl
end DL


set_option maxRecDepth 100000
set_option maxHeartbeats 2000000
/-! DL14: small data may be shown. Own work. -/
namespace DL
open PySem PySem.Spec PyProof.Rows L2
mutual
/-- ints below 2 ** 200, texts of sane signs, empty dicts -/
def tinyB : D → Bool
  | .non => true
  | .bl _ => true
  | .int i => decide (i.natAbs < 2 ^ 200)
  | .str x => x.cps.toList.all fun c => decide (c < 16 ^ 8)
  | .tup ds => tinyL ds
  | .lst ds => tinyL ds
  | .dic ks ds => ks.isEmpty && ds.isEmpty
  | .obj _ _ _ => false
  | .exc _ _ _ => false
  | .pen => false
  | .clo _ _ _ => false
  | .fnA _ => false
  | .scr _ _ _ => false
def tinyL : List D → Bool
  | [] => true
  | d :: ds => tinyB d && tinyL ds
end
theorem int_short {i : Int} (h : i.natAbs < 2 ^ 200) : (PyData.shown (.int i)).length ≤ 202 ∧ i.natAbs.log2 < 1920 := by
  have h1 : i.natAbs.log2 < 200 := PySem.Flt.log2_lt_of (by decide) h
  have h2 := int_text_length_le (a := i) (k := 200) (by decide) h1
  refine ⟨?_, by omega⟩
  have e : (PyData.shown (.int i)).length = (toString i).length := by
    show (Str.ofString (toString i)).length = _
    rw [PySem.ofString_length]
  omega
mutual
theorem tiny_pd : ∀ {d : D}, tinyB d = true → (pyD d).leavesShort 202 = true ∧ (pyD d).showable = true
  | .non, _ => by unfold pyD; exact ⟨rfl, rfl⟩
  | .bl _, _ => by unfold pyD; exact ⟨rfl, rfl⟩
  | .int i, h => by
    unfold tinyB at h
    have h := int_short (of_decide_eq_true h)
    unfold pyD
    exact ⟨by simp only [PyData.leavesShort]; exact decide_eq_true h.1, by simp only [PyData.showable]; exact decide_eq_true h.2⟩
  | .str x, h => by
    unfold tinyB at h
    unfold pyD
    exact ⟨by simp only [PyData.leavesShort]; exact h, by simp only [PyData.showable]⟩
  | .tup ds, h => by
    unfold tinyB at h
    obtain ⟨a, b⟩ := tiny_pdL h
    unfold pyD
    exact ⟨by simp only [PyData.leavesShort]; exact a, by simp only [PyData.showable]; exact b⟩
  | .lst ds, h => by
    unfold tinyB at h
    obtain ⟨a, b⟩ := tiny_pdL h
    unfold pyD
    exact ⟨by simp only [PyData.leavesShort]; exact a, by simp only [PyData.showable]; exact b⟩
  | .dic ks ds, h => by
    unfold tinyB at h
    obtain ⟨a, b⟩ := Bool.and_eq_true_iff.mp h
    rw [List.isEmpty_iff.mp a, List.isEmpty_iff.mp b]
    unfold pyD pyL
    exact ⟨rfl, rfl⟩
  | .obj _ _ _, h => by unfold tinyB at h; cases h
  | .exc _ _ _, h => by unfold tinyB at h; cases h
  | .pen, h => by unfold tinyB at h; cases h
  | .clo _ _ _, h => by unfold tinyB at h; cases h
  | .fnA _, h => by unfold tinyB at h; cases h
  | .scr _ _ _, h => by unfold tinyB at h; cases h
theorem tiny_pdL : ∀ {ds : List D}, tinyL ds = true → PyData.leavesShortAll 202 (pyL ds) = true ∧ PyData.showableAll (pyL ds) = true
  | [], _ => by unfold pyL; exact ⟨rfl, rfl⟩
  | d :: ds, h => by
    unfold tinyL at h
    obtain ⟨h1, h2⟩ := Bool.and_eq_true_iff.mp h
    obtain ⟨a, b⟩ := tiny_pd h1
    obtain ⟨c, e⟩ := tiny_pdL h2
    unfold pyL
    simp only [PyData.leavesShortAll, PyData.showableAll, a, b, c, e, Bool.and_self, and_self]
end
theorem shows_of {d : D} (h1 : (flatD d || tupD d) = true) (h2 : tinyB d = true) (h3 : (pyD d).depth ≤ 40) (h4 : (pyD d).bulk ≤ 1000) : Shows d := by
  obtain ⟨a, b⟩ := tiny_pd h2
  have := PyData.shown_le_bulk 202 (by decide) (pyD d) a
  exact ⟨h1, b, h3, by rw [sizeLine_eq]; omega⟩
end DL


set_option maxRecDepth 100000
set_option maxHeartbeats 2000000
/-! DL15: promises from what the top has written. Own work over HandS. -/
namespace DL
open PySem PySem.Spec PyProof.Rows L2
/-- the i-th def of a class's text -/
def clsDef (i : Nat) : Stmt → Stmt
  | .ClassDef _ _ _ body _ _ _ _ _ _ _ => body.getD i (.Pass ⟨0, 0, 0, 0⟩)
  | s => s
section
variable {P : Program} {w : World} {K : PySem.W.Frag} {mg : Str → Option Value} {base h : Heap}
theorem defF_mk {x : Str} {st : Stmt} {ps : List Str} {f : Addr} {oc : Value} {od an : Option Addr} {osl : Array (Option Value)} {kV doc pm cdv ct : Value} (X : K.In h) (G : h.Ns mainGlobals mg) (a : PySem.W.nsIn K mainGlobals x = some (some (.ref f)))
    (l : K.lookup f = some ⟨oc, od, .func (PySem.W.fnOf x x (defArgs st) (defBody st) (defScope st) .none kV doc pm an cdv ct), osl⟩) (c : PySem.W.codeIn K cdv x = true) (k : PySem.W.keepIn K (.ref f) = true) (hb : ∀ fd, Fun K x x st f fd → Binds K fd ps []) : DefF K mg x st ps :=
  have F := fun_mk (st := st) l c k
  ⟨f, _, F, PySem.W.mg_of X G a, hb _ F⟩
/-- a class that is caught, fields of which are read -/
structure CatchF (K : PySem.W.Frag) (mg : Str → Option Value) (x : Str) (C : Addr) (it : List FIt) : Prop where
  m : mg x = some (.ref C)
  X : XfC K C
  no : ∀ y, (y, true) ∈ it → PySem.W.findIn K (.ref C) y = some none
theorem catchF_mk {x : Str} {C : Addr} {it : List FIt} (X : K.In h) (G : h.Ns mainGlobals mg) (a : PySem.W.nsIn K mainGlobals x = some (some (.ref C))) (b : xfB K C = true) (c : it.all (fun p => !p.2 || decide (PySem.W.findIn K (.ref C) p.1 = some none)) = true) : CatchF K mg x C it :=
  ⟨PySem.W.mg_of X G a, xfB_ok b, fun y hy => by
    have := List.all_eq_true.mp c _ hy
    simpa using this⟩
theorem oexC_mk {C : Addr} {nm q : Str} {N : Addr} {bs bm : List Value} {sn : List Str} {sub : List Value} {ab : Bool} {col : Option Bool} {dd : Option Addr} {m0 m1 m2 m3 m5 : Option Value} (xL : K.lookup C = some (excClassObj nm q C N bs bm true sn sub ab col dd m0 m1 m2 m3 m5 "ValueError.__new__")) (rv : PySem.HandSPX.refsVE bm = true)
    (sa : PySem.W.findIn K (.ref C) "__setattr__" = some (some (.builtin "object.__setattr__"))) (eC : PySem.W.subIn K (.ref C) (.type "BaseException") = some true) (tC : PySem.W.typeIn K (.ref C) = some (.type "type")) (kC : PySem.W.keepIn K (.ref C) = true) : OexC K C :=
  ⟨⟨nm, q, N, bs, bm, sn, sub, ab, col, dd, m0, m1, m2, m3, m5, xL, rv⟩, sa, eC, tC, kC⟩
theorem errG_mk {x qual msg : Str} {st : Stmt} {C f : Addr} {ps fs : List Str} {oc : Value} {od an : Option Addr} {osl : Array (Option Value)} {kV doc pm cdv ct : Value} (X : K.In h) (G : h.Ns mainGlobals mg) (a : PySem.W.nsIn K mainGlobals x = some (some (.ref C))) (T : OexC K C)
    (iC : PySem.W.findIn K (.ref C) "__init__" = some (some (.ref f))) (tI : PySem.W.typeIn K (.ref f) = some (.type "function")) (l : K.lookup f = some ⟨oc, od, .func (PySem.W.fnOf "__init__" qual (defArgs st) (defBody st) (defScope st) .none kV doc pm an cdv ct), osl⟩) (c : PySem.W.codeIn K cdv qual = true) (k : PySem.W.keepIn K (.ref f) = true)
    (no : fs.all (fun y => decide (PySem.W.findIn K (.ref C) y = some none)) = true) (hb : ∀ fd, Fun K "__init__" qual st f fd → Binds K fd ps []) (S : FnScope ps ps (defScope st)) (hf : fs ≠ []) (hps : ps.length = fs.length + 1) (hz : fs.length ≤ 800)
    (hbody : ∀ (cdv : Value) (A : Around) (outer : List Env) (s : Shared) (H : Hp) (E : XK), PSs (cxOf (L2.CX P w) P w K mg base ps qual (defScope st) f cdv A outer s H E) (defBody st) (tInit K msg fs)) : ErrG P w K mg base x C fs 1 :=
  have F := fun_mk (st := st) l c k
  ⟨f, _, ps, T, iC, tI, init_ok (k := 0) F S T hf hps hz (fun y hy => by
    have := List.all_eq_true.mp no _ hy
    simpa using this) hbody, hb _ F, PySem.W.mg_of X G a⟩
theorem baseInit_mk {CD : Addr} (ga : PySem.W.specialIn K (.ref CD) "__getattribute__" = some (some (.builtin "type.__getattribute__"))) (ty : PySem.W.typeIn K (.ref CD) = some (.type "type")) (rd : PySem.W.readsIn K CD (.type "type") = true) (fd : PySem.W.findCls K (.ref CD) (.type "type") "__init__" = some (.val (.builtin "ValueError.__init__"))) : BaseInit K CD := ⟨ga, ty, rd, fd⟩
end
end DL


set_option maxRecDepth 100000
set_option maxHeartbeats 2000000
/-! DL16: a module's number, chains, slices, zip, in, pop, products of lists. Own work over HandS. -/
namespace DL
open PySem PySem.Spec PyProof.Rows L2
section
variable {ι : Type} {X : ι → Cx} {W : WX}
/-! ### a module's number -/
theorem DE.glob {x : Str} {i : Int} {t : Tok} {pos : Pos} (hg : ∀ j, Gl (X j) x) (hm : ∀ j, (X j).mg x = some (.int i t)) (hd : (x == ("__debug__" : Str)) = false := by decide) : DE X W (.Name x pos) (fun _ => pure (.int i)) :=
  .const (fun j => pe_glob (v := .int i) (hg j) (hm j) ⟨t, rfl⟩ hd) fun _ _ => .int i
/-! ### a < b < c -/
theorem DE.chain {a b c : Expr} {op op' : CmpOp} {pos : Pos} {r r' : R2} {φ φ' : D → D → Wm D} {t u v : TD D} (ho : ∀ i, OpR (X i) (compareOp op) r) (ho' : ∀ i, OpR (X i) (compareOp op') r') (hr : Sem2 r φ) (hr' : Sem2 r' φ') (h1 : DE X W a t) (h2 : DE X W b u) (h3 : DE X W c v)
    (hm : lastMarks [op, op'] [b, c] = false := by with_unfolding_all rfl) :
    DE X W (.Compare a [op, op'] [b, c] pos) (fun ρ => do let x ← t ρ; let y ← u ρ; match ← calm (φ x y) with | .bl true => (do let z ← v ρ; calm (φ' y z)) | .bl false => pure (.bl false) | _ => Wm.fail) := by
  obtain ⟨te, p1, r1⟩ := h1
  obtain ⟨tu, p2, r2⟩ := h2
  obtain ⟨tv, p3, r3⟩ := h3
  refine ⟨_, fun i => pe_chain (ho i) (ho' i) (p1 i) (p2 i) (p3 i) hm, fun F H n σ ρ K Kx Q hs ht hq hx => ?_⟩
  refine r1 F H n σ ρ _ Kx _ hs ht (fun x d F1 H1 n1 g1 hv ht1 => ?_) hx
  refine r2 F1 H1 n1 σ ρ _ Kx _ (hs.mono g1) ht1 (fun y d2 F2 H2 n2 g2 hw ht2 => ?_) fun cls od xd F' H' n' g => hx cls od xd F' H' n' (g1.trans g)
  refine hr F2 H2 n2 x y d d2 _ _ g2.pb (hv.mono g2) hw ht2 fun z d3 F3 H3 n3 g3 hz ht3 => ?_
  cases hz with
  | bl k =>
    refine ⟨k, rfl, ?_⟩
    cases k with
    | false => exact iteF (hq _ _ F3 H3 n3 (g1.trans (g2.trans g3)) (.bl false) ht3)
    | true =>
      have g123 := g1.trans (g2.trans g3)
      refine iteT (r3 F3 H3 n3 σ ρ _ Kx _ (hs.mono g123) ht3 (fun z d4 F4 H4 n4 g4 hz4 ht4 => ?_) fun cls od xd F' H' n' g => hx cls od xd F' H' n' (g123.trans g))
      exact hr' F4 H4 n4 y z d2 d4 K Q g4.pb (hw.mono (g3.trans g4)) hz4 ht4 fun v5 d5 F5 H5 n5 g5 => hq v5 d5 F5 H5 n5 (g123.trans (g4.trans g5))
  | _ => exact ht3.elim
theorem DT.chain {a b c : Expr} {op op' : CmpOp} {pos : Pos} {r r' : R2} {φ φ' : D → D → Wm D} {t u v : TD D} (ho : ∀ i, OpR (X i) (compareOp op) r) (ho' : ∀ i, OpR (X i) (compareOp op') r') (hr : Sem2 r φ) (hr' : Sem2 r' φ') (h1 : DE X W a t) (h2 : DE X W b u) (h3 : DE X W c v)
    (hm : lastMarks [op, op'] [b, c] = false := by with_unfolding_all rfl) :
    DT X W (.Compare a [op, op'] [b, c] pos) (fun ρ => do let x ← t ρ; let y ← u ρ; match ← calm (φ x y) with | .bl true => (do let z ← v ρ; match ← calm (φ' y z) with | .bl b => pure b | _ => Wm.fail) | .bl false => pure false | _ => Wm.fail) := by
  obtain ⟨te, p1, r1⟩ := h1
  obtain ⟨tu, p2, r2⟩ := h2
  obtain ⟨tv, p3, r3⟩ := h3
  refine ⟨_, fun i => pt_chain (ho i) (ho' i) (p1 i) (p2 i) (p3 i) hm, fun F H n σ ρ K Kx Q hs ht hq hx => ?_⟩
  refine r1 F H n σ ρ _ Kx _ hs ht (fun x d F1 H1 n1 g1 hv ht1 => ?_) hx
  refine r2 F1 H1 n1 σ ρ _ Kx _ (hs.mono g1) ht1 (fun y d2 F2 H2 n2 g2 hw ht2 => ?_) fun cls od xd F' H' n' g => hx cls od xd F' H' n' (g1.trans g)
  refine hr F2 H2 n2 x y d d2 _ _ g2.pb (hv.mono g2) hw ht2 fun z d3 F3 H3 n3 g3 hz ht3 => ?_
  cases hz with
  | bl k =>
    refine ⟨k, rfl, ?_⟩
    cases k with
    | false => exact iteF ⟨false, rfl, hq false F3 H3 n3 (g1.trans (g2.trans g3)) ht3⟩
    | true =>
      have g123 := g1.trans (g2.trans g3)
      refine iteT (r3 F3 H3 n3 σ ρ _ Kx _ (hs.mono g123) ht3 (fun z d4 F4 H4 n4 g4 hz4 ht4 => ?_) fun cls od xd F' H' n' g => hx cls od xd F' H' n' (g123.trans g))
      refine hr' F4 H4 n4 y z d2 d4 _ _ g4.pb (hw.mono (g3.trans g4)) hz4 ht4 fun v5 d5 F5 H5 n5 g5 hv5 ht5 => ?_
      cases hv5 with
      | bl b => exact ⟨b, rfl, hq b F5 H5 n5 (g123.trans (g4.trans g5)) ht5⟩
      | _ => exact ht5.elim
  | _ => exact ht3.elim
/-! ### slices of tuples -/
def RunO (W : WX) (tl : TO) (t : TD (Option Int)) : Prop := ∀ (F : Addr → Prop) (H : Hp) (n : Nat) (σ : L2.St) (ρ : Env') (K : Option Int → Nat → Prop) (X : XD → Nat → Prop) (Q : Option Int → Hp → Prop), HasS F H n σ ρ → t ρ K X n →
  (∀ o F' H' n', Grow F H n F' H' n' → K o n' → Q o H') → (∀ cls od xd F' H' n', Grow F H n F' H' n' → HasX F' H' cls od xd → X xd n' → W cls od σ H') → tl σ H Q
structure DO {ι : Type} (X : ι → Cx) (W : WX) (e : Option Expr) (t : TD (Option Int)) : Prop where
  ex : ∃ tl, (∀ i, PO (X i) e tl) ∧ RunO W tl t
theorem DO.no : DO X W none (fun _ => pure none) := ⟨_, fun _ => po_none, fun F H n σ ρ K Kx Q hs ht hq _ => hq none F H n (.refl hs.pb) ht⟩
theorem DO.so {e : Expr} {t : TD D} (h : DE X W e t) : DO X W (some e) (fun ρ => do match ← t ρ with | .int i => pure (some i) | _ => Wm.fail) := by
  obtain ⟨te, p, r⟩ := h
  refine ⟨_, fun i => po_some (p i), fun F H n σ ρ K Kx Q hs ht hq hx => ?_⟩
  refine r F H n σ ρ _ Kx _ hs ht (fun v d F1 H1 n1 g1 hv ht1 => ?_) hx
  cases hv with
  | int i => exact ⟨i, rfl, hq _ F1 H1 n1 g1 ht1⟩
  | _ => exact ht1.elim
def cutD (ds : List D) (lo hi : Option Int) : List D := (ds.drop (HT.sIx ds.length 0 lo)).take (HT.sIx ds.length ds.length hi - HT.sIx ds.length 0 lo)
def fCut (d : D) (lo hi : Option Int) : Wm D := match d with
  | .tup ds => pure (.tup (cutD ds lo hi))
  | .lst ds => pure (.lst (cutD ds lo hi))
  | _ => Wm.fail
theorem HasL.drop {F : Addr → Prop} {H : Hp} : ∀ {vs : List V} {ds : List D} (k : Nat), HasL F H vs ds → HasL F H (vs.drop k) (ds.drop k)
  | _, _, 0, h => h
  | _, _, k + 1, .nil => .nil
  | _, _, k + 1, .cons _ l => HasL.drop k l
theorem HasL.take {F : Addr → Prop} {H : Hp} : ∀ {vs : List V} {ds : List D} (k : Nat), HasL F H vs ds → HasL F H (vs.take k) (ds.take k)
  | _, _, 0, _ => .nil
  | _, _, k + 1, .nil => .nil
  | _, _, k + 1, .cons h l => .cons h (HasL.take k l)
theorem DE.sl {e : Expr} {lo hi : Option Expr} {t : TD D} {tl th : TD (Option Int)} {pos p2 : Pos} {K : PySem.W.Frag} (hK : ∀ i, (X i).K = K) (h : DE X W e t) (hl : DO X W lo tl) (hh : DO X W hi th) :
    DE X W (.Subscript e (.Slice lo hi none p2) pos) (fun ρ => do let d ← t ρ; let l ← tl ρ; let u ← th ρ; fCut d l u) := by
  obtain ⟨te, p, r⟩ := h
  obtain ⟨a, pl, rl⟩ := hl
  obtain ⟨b, ph, rh⟩ := hh
  refine ⟨tSl (fun x lo hi H Q => rSlA K x lo hi H Q ∨ rSlL K x lo hi H Q) te a b, fun i => by rw [← hK i]; exact pe_slice (sl_tupA.or sl_list) (p i) (pl i) (ph i), fun F H n σ ρ Kd Kx Q hs ht hq hx => ?_⟩
  refine r F H n σ ρ _ Kx _ hs ht (fun v d F1 H1 n1 g1 hv ht1 => ?_) hx
  refine rl F1 H1 n1 σ ρ _ Kx _ (hs.mono g1) ht1 (fun l F2 H2 n2 g2 ht2 => ?_) fun cls od xd F' H' n' g => hx cls od xd F' H' n' (g1.trans g)
  refine rh F2 H2 n2 σ ρ _ Kx _ (hs.mono (g1.trans g2)) ht2 (fun u F3 H3 n3 g3 ht3 => ?_) fun cls od xd F' H' n' g => hx cls od xd F' H' n' (g1.trans (g2.trans g))
  have g := g1.trans (g2.trans g3)
  have hv3 := hv.mono (g2.trans g3)
  cases hv3 with
  | @tup a vs ds f ha hl =>
    have ht3 : Kd (.tup (cutD ds l u)) n3 := ht3
    unfold cutD at ht3
    rw [← hl.len] at ht3
    refine .inl ⟨a, vs, rfl, .of ha, fun e => ?_, fun _ q hp => ?_⟩
    · rw [e.1, e.2, Nat.sub_zero, List.drop_zero, List.take_of_length_le (by rw [hl.len]; exact Nat.le_refl _)] at ht3
      exact hq _ (.tup ds) F3 H3 n3 g (.tup f ha hl) ht3
    · have g4 : Grow F3 H3 n3 (plusF F3 q) (upd H3 q (.tup (cutV vs l u))) n3 := .laid g.pb hp .tup
      exact hq _ _ _ _ n3 (g.trans g4) (.tup plusF_same upd_same (((hl.drop _).take _).mono g4)) ht3
  | @lst a vs ds f ha hl =>
    have ht3 : Kd (.lst (cutD ds l u)) n3 := ht3
    unfold cutD at ht3
    rw [← hl.len] at ht3
    refine .inr ⟨a, vs, rfl, .of ha, fun q hp => ?_⟩
    have g4 : Grow F3 H3 n3 (plusF F3 q) (upd H3 q (.lst (cutV vs l u))) n3 := .laid g.pb hp .lst
    exact hq _ _ _ _ n3 (g.trans g4) (.lst plusF_same upd_same (((hl.drop _).take _).mono g4)) ht3
  | _ => exact ht3.elim
/-! ### list * int -/
def fMul : D → D → Wm D
  | .int i, .int j => do Wm.need (CMulW i j); pure (.int (i * j))
  | .lst ds, .int k => do Wm.need (-(2 ^ 63) ≤ k ∧ k < 2 ^ 63 ∧ Fits (ds.length * k.toNat)); pure (.lst (List.replicate k.toNat ds).flatten)
  | _, _ => Wm.fail
def rMulA : R2 := fun x y H Q => (∃ i j, x = .int i ∧ y = .int j ∧ CMulW i j ∧ Q (.int (i * j)) H) ∨ rRep x y H Q
theorem op_mulA {X : Cx} : OpR X (binaryOp .Mult) rMulA := op_mulW.or op_rep
theorem HasL.reps {F : Addr → Prop} {H : Hp} {vs : List V} {ds : List D} (h : HasL F H vs ds) : ∀ k : Nat, HasL F H (List.replicate k vs).flatten (List.replicate k ds).flatten
  | 0 => .nil
  | k + 1 => by
    rw [List.replicate_succ, List.replicate_succ, List.flatten_cons, List.flatten_cons]
    exact h.app (HasL.reps h k)
theorem sem_mulA : Sem2 rMulA fMul := by
  intro F H n x y a b Kd Q pb hx hy ht hq
  cases hx <;> cases hy <;> first | exact ht.elim | skip
  case int.int i j => exact .inl ⟨i, j, rfl, rfl, ht.1, hq _ _ F H n (.refl pb) (.int _) ht.2⟩
  case lst.int a vs ds f ha hl k =>
    refine .inr ⟨a, k, vs, rfl, rfl, ha, ht.1.1, ht.1.2.1, by rw [hl.len]; exact ht.1.2.2, fun p hp => ?_⟩
    have g : Grow F H n (plusF F p) (upd H p (.lst (List.replicate k.toNat vs).flatten)) n := .laid pb hp .lst
    exact hq _ _ _ _ n g (.lst plusF_same upd_same ((hl.reps _).mono g)) ht.2
/-! ### zip of two lists -/
def zipOf : List D → Wm (List D)
  | [.lst xs, .lst ys] => pure ((xs.zip ys).map fun p => .tup [p.1, p.2])
  | _ => Wm.fail
theorem yld_zip {K : PySem.W.Frag} {F : Addr → Prop} {H : Hp} {n : Nat} {a b : Addr} {vs ws : List V} {ds es : List D} (fa : F a) (ha : H a = some (.lst vs)) (hl : HasL F H vs ds) (fb : F b) (hb : H b = some (.lst ws)) (hm : HasL F H ws es) :
    Yld (Itz K a b) F H n ((ds.zip es).map fun p => .tup [p.1, p.2]) where
  stop := fun i F' H' n' l hi => ⟨vs, ws, .of (l.keepL fa ha .lst), .of (l.keepL fb hb .lst), by
    rw [List.length_map, List.length_zip] at hi
    rw [hl.len, hm.len]
    omega⟩
  go := fun i d F' H' n' l pb e => by
    rw [List.getElem?_map] at e
    obtain ⟨p, e1, e2⟩ := Option.map_eq_some_iff.mp e
    obtain ⟨h1, h2⟩ := List.getElem?_zip_eq_some.mp e1
    obtain ⟨v, q1, hv⟩ := (hl.later l).get h1
    obtain ⟨w, q2, hw⟩ := (hm.later l).get h2
    have ha' : SqL K H' a vs := .of (l.keepL fa ha .lst)
    have hb' : SqL K H' b ws := .of (l.keepL fb hb .lst)
    refine ⟨⟨vs, ws, v, w, ha', hb', q1, q2⟩, fun x H'' y => ?_⟩
    obtain ⟨T, x1, y1, rfl, hT, rfl, y2, y3⟩ := y
    have z1 := y2 vs ha'
    have z2 := y3 ws hb'
    rw [q1] at z1
    rw [q2] at z2
    cases z1
    cases z2
    have g : Grow F' H' n' (plusF F' T) (upd H' T (.tup [v, w])) n' := .laid pb hT .tup
    subst e2
    exact ⟨_, g, .tup plusF_same upd_same (.cons (hv.mono g) (.cons (hw.mono g) .nil))⟩
theorem DI.zip {a b : Expr} {t : TD (List D)} {p pos tpos : Pos} {elts : List Expr} {kk : Nat} {K : PySem.W.Frag} (hK : ∀ i, (X i).K = K) (hg : ∀ i, Gl (X i) "zip") (hm : ∀ i, (X i).mg "zip" = none) (h : DA X W [a, b] t)
    (hs : ∀ i, starEach [a, b] (X i).env = (false, eval a (X i).env) :: starEach [b] (X i).env := by intro _; rfl) (hpl : ∀ i, (backTo pos (starEach [b] (X i).env)).any (·.1) = false := by intro _; rfl) :
    DI X W (.Tuple elts kk tpos) (.Call (.Name "zip" p) [a, b] [] pos) (fun ρ => do zipOf (← t ρ)) := by
  obtain ⟨ta, pa, r⟩ := h
  refine ⟨iZip K ta, fun i => by rw [← hK i]; exact pi_zip (hg i) (hm i) (pa i) (hs i) (hpl i), fun F H n σ ρ Kd Kx R hs ht hq hx => ?_⟩
  refine r F H n σ ρ _ Kx _ hs ht (fun vs ds F1 H1 n1 g1 hv ht1 => ?_) hx
  cases hv with
  | nil => exact ht1.elim
  | cons h1 h2 =>
    cases h2 with
    | nil => cases h1 <;> exact ht1.elim
    | cons h2 h3 =>
      cases h3 with
      | cons _ _ => cases h1 <;> cases h2 <;> exact ht1.elim
      | nil =>
        cases h1 <;> cases h2 <;> first | exact ht1.elim | skip
        case lst.lst a vs ds fa ha hl b ws es fb hb hm =>
          exact ⟨a, b, vs, ws, rfl, .of ha, .of hb, hq _ _ F1 H1 n1 g1 (yld_zip fa ha hl fb hb hm) ht1⟩
/-! ### x in a tuple -/
def rInT (K : PySem.W.Frag) : R2 := fun x y H Q => ∃ d ds, Dp K H x d ∧ Dp K H y (.tuple ds) ∧ SeqAt.shaped d = true ∧ SeqAt.shaped (.tuple ds) = true ∧ Q (.bl (ds.any fun z => PyData.eqv z d)) H
theorem room_inT {A : Around} {d : PyData} {ds : List PyData} (h : SeqAt.shaped d = true) (hu : A.units + 65 < cLine) : A.units + 1 + min (PyData.depthAll ds) d.depth < cLine := by
  have h1 := SeqAt.depth_of_shaped h
  have h2 : min (PyData.depthAll ds) d.depth ≤ d.depth := Nat.min_le_right _ _
  omega
theorem op_inT {X : Cx} (hu : X.A.units + 65 < cLine) : OpR X (compareOp .In) (rInT X.K) := by
  intro pins s σ H x y v u Q I rx ry h
  obtain ⟨d, ds, hd, he, sd, se, q⟩ := h
  obtain ⟨as, r1⟩ := Dp.reads I d x v hd rx
  obtain ⟨bs, r2⟩ := Dp.reads I (.tuple ds) y u he ry
  have hl : PyData.canLayAll0 ds = true := by
    have := SeqAt.canLay_of_shaped se
    simpa [PyData.canLay0] using this
  exact SeqAt.in_tuple_reads r2 r1 hl (SeqAt.canLay_of_shaped sd) (room_inT sd hu) ⟨.bl _, H, I, rfl, q⟩
def fIn (d e : D) : Wm D := match e with
  | .tup es => do Wm.need (EqOk d ∧ EqOk (.tup es)); pure (.bl (es.any fun z => eqD z d))
  | _ => Wm.fail
theorem pyL_any {d : D} : ∀ es : List D, (pyL es).any (fun z => PyData.eqv z (pyD d)) = es.any fun z => eqD z d
  | [] => by unfold pyL; rfl
  | e :: es => by unfold pyL; rw [List.any_cons, List.any_cons, pyL_any es]; rfl
theorem sem_inT {K : PySem.W.Frag} : Sem2 (rInT K) fIn := by
  intro F H n x y a b Kd Q pb hx hy ht hq
  cases b with
  | tup es =>
    obtain ⟨⟨⟨f1, s1⟩, f2, s2⟩, hk⟩ := ht
    have e : pyD (.tup es) = .tuple (pyL es) := by unfold pyD; rfl
    have dy := hy.dp (K := K) f2
    rw [e] at dy s2
    exact ⟨_, _, hx.dp f1, dy, s1, s2, by rw [pyL_any]; exact hq _ _ F H n (.refl pb) (.bl _) hk⟩
  | _ => exact ht.elim
/-! ### a list of one's own: len, pop, + -/
theorem DE.lenOwn {k : Nat} {o : Expr} {p pos : Pos} {K : PySem.W.Frag} (hK : ∀ i, (X i).K = K) (hg : ∀ i, Gl (X i) "len") (hm : ∀ i, (X i).mg "len" = none) (ho : ∀ i, PE (X i) o (tVar k))
    (hs : ∀ i, starEach [o] (X i).env = (false, eval o (X i).env) :: starEach [] (X i).env := by intro _; rfl) (hpl : ∀ i, (backTo pos (starEach [] (X i).env)).any (·.1) = false := by intro _; rfl) :
    DE X W (.Call (.Name "len" p) [o] [] pos) (fun ρ => match ρ[k]? with | some (some (.ml ds)) => pure (.int ds.length) | _ => Wm.fail) := by
  refine ⟨tCB (rLen K) (tCons (tVar k) tNil), fun i => by rw [← hK i]; exact pe_callB call_lenA (hg i) (hm i) (by decide +kernel) (pa_cons (ho i) pa_nil (hs i)) (by decide) (by decide) (hs i) (hpl i), fun F H n σ ρ Kd Kx Q hs ht hq hx => ?_⟩
  have ht : (match ρ[k]? with | some (some (.ml ds)) => (pure (.int ds.length) : Wm D) | _ => Wm.fail) Kd Kx n := ht
  match e : ρ[k]? with
  | some (some (.d _)) => rw [e] at ht; exact ht.elim
  | some none => rw [e] at ht; exact ht.elim
  | none => rw [e] at ht; exact ht.elim
  | some (some (.ml ds)) =>
    rw [e] at ht
    obtain ⟨v, e1, a, vs, rfl, ha, hl, nf⟩ := hs.at_ k _ e
    exact ⟨.ref a, e1, .inl ⟨a, vs, rfl, .inl (.of ha), by rw [hl.len]; exact hq _ _ F H n (.refl hs.pb) (.int _) ht⟩⟩
/-- target = x.pop() -/
def dPop (k : Nat) (g : TDG) : TDS := fun E ρ n => match ρ[k]? with
  | some (some (.ml ds)) => match ds.getLast? with
    | some d => match g d (ρ.set k (some (.ml ds.dropLast))) with
      | some ρ' => E.nx ρ' n
      | none => False
    | none => False
  | _ => False
theorem HasL.dropLast {F : Addr → Prop} {H : Hp} : ∀ {vs : List V} {ds : List D}, HasL F H vs ds → HasL F H vs.dropLast ds.dropLast
  | _, _, .nil => .nil
  | _, _, .cons h .nil => .nil
  | _, _, .cons h (.cons h2 l) => .cons h (HasL.dropLast (.cons h2 l))
theorem DS.pop {k : Nat} {tg o : Expr} {g : TDG} {us : List Nat} {p1 p2 pos : Pos} {K : PySem.W.Frag} (hK : ∀ i, (X i).K = K) (ho : ∀ i, PE (X i) o (tVar k)) (hg : DG X tg g us)
    (hp : ∀ i, PE (X i) (.Call (.Attribute o "pop" p1) [] [] p2) (tBM0 (X i).K "list" rPop (tVar k)))
    (hs : ∀ i, swapsWithSole [tg] (.Call (.Attribute o "pop" p1) [] [] p2) pos.line (X i).env = pure false := by intro _; rfl) (hw : ∀ i, swappedStores [tg] (.Call (.Attribute o "pop" p1) [] [] p2) (X i).env = pure none := by intro _; rfl)
    (h1 : ∀ i, (assignEach [tg] (X i).env).map (·.2) = [assign tg (X i).env] := by intro _; rfl) : DS X W (.Assign [tg] (.Call (.Attribute o "pop" p1) [] [] p2) pos) (dPop k g) := by
  obtain ⟨tgk, pg, rg⟩ := hg
  refine ⟨_, fun i => ps_asg (te := tBM0 K "list" rPop (tVar k)) (by rw [← hK i]; exact hp i) (pg i) (hs i) (hw i) (h1 i), fun B F H n σ ρ E Z s h eo => ?_⟩
  have h : (match ρ[k]? with
  | some (some (.ml ds)) => match ds.getLast? with
    | some d => match g d (ρ.set k (some (.ml ds.dropLast))) with
      | some ρ' => E.nx ρ' n
      | none => False
    | none => False
  | _ => False) := h
  match e : ρ[k]? with
  | some (some (.d _)) => rw [e] at h; exact h.elim
  | some none => rw [e] at h; exact h.elim
  | none => rw [e] at h; exact h.elim
  | some (some (.ml ds)) =>
    rw [e] at h
    obtain ⟨v, e1, a, vs, rfl, ha, hl, nf⟩ := s.hs.at_ k _ e
    cases q : ds.getLast? with
    | none => simp only [q] at h
    | some d =>
      simp only [q] at h
      have q2 : ds[ds.length - 1]? = some d := by rw [← List.getLast?_eq_getElem?]; exact q
      obtain ⟨y, q3, hy⟩ := hl.get q2
      refine ⟨.ref a, e1, .inl ⟨rfl, _, .of ha⟩, a, vs, y, rfl, rfl, ha, by rw [hl.len]; exact q3, ?_⟩
      obtain ⟨s2, l2⟩ := s.own_put e e1 ha nf hl.dropLast
      cases q4 : g d (ρ.set k (some (.ml ds.dropLast))) with
      | none => rw [q4] at h; exact h.elim
      | some ρ' =>
        rw [q4] at h
        exact rg F _ n σ _ ρ' y d _ s2.hs (hy.out nf) q4 fun σ' s3 o => eo.nx σ' ρ' F _ n (s2.only s3 o) l2 h
/-- x = x + [e, ..] -/
def dOwnCat (k : Nat) (t : TD (List D)) : TDS := fun E ρ n => t ρ (fun es n' => match ρ[k]? with
  | some (some (.ml ds)) => (Fits es.length ∧ Fits (ds.length + es.length)) ∧ E.nx (ρ.set k (some (.ml (ds ++ es)))) n'
  | _ => False) (fun x n' => E.ex x ρ n') n
theorem DS.ownCat {k : Nat} {x : Str} {o : Expr} {es : List Expr} {t : TD (List D)} {p2 p3 pos pos' : Pos} (hN : ∀ i, (X i).N.Nodup) (hi : ∀ i, (X i).N[k]? = some x) (hx : ∀ i, Loc (X i).env.scope x) (ho : ∀ i, PE (X i) o (tVar k)) (h : DA X W es t)
    (hs : ∀ i, swapsWith (.BinOp o .Add (.List es p2) p3) (some (.Name x pos')) pos.line (X i).env = pure false := by intro _; rfl)
    (hf : ∀ i, (X i).fn x = true ∨ (X i).env.scope.names.lookup x = some .local := by first | exact fun _ => .inl rfl | exact fun _ => .inr rfl) : DS X W (.Assign [.Name x pos'] (.BinOp o .Add (.List es p2) p3) pos) (fun E ρ n => (∃ ds, ρ[k]? = some (some (.ml ds))) ∧ dOwnCat k t E ρ n) := by
  obtain ⟨ta, p, r⟩ := h
  refine ⟨_, fun i => ps_set (i := k) (hN i) (hi i) (hx i) (pe_op op_cat (ho i) (pe_lst (p i))) (hs i) (hf i), fun B F H n σ ρ E D s h eo => ?_⟩
  obtain ⟨⟨ds, e⟩, h⟩ := h
  obtain ⟨v, e1, _⟩ := s.hs.at_ k _ e
  refine ⟨v, e1, ?_⟩
  refine r F H n σ ρ _ _ _ s.hs h (fun vs es' F' H' n' g hv hk => ?_) fun cls od xd F' H' n' g hx he => eo.ex cls od xd σ ρ F' H' n' (s.mono g) g.later hx he
  rw [e] at hk
  obtain ⟨⟨hk1, hk2⟩, hk⟩ := hk
  have s1 := s.mono g
  obtain ⟨v', e1', a, ws, rfl, ha, hl, nf⟩ := s1.hs.at_ k _ e
  rw [e1] at e1'
  cases e1'
  refine ⟨by rw [hv.len]; exact hk1, fun b hb => ?_⟩
  have gb : Grow F' H' n' F' (upd H' b (.lst vs)) n' := ⟨(Grow.laid g.pb hb .lst).keep, fun _ f => f, fun _ f => .inl f, g.pb.put (g.pb.out hb) .lst, Nat.le_refl _⟩
  have hab : a ≠ b := fun z => by rw [z, hb] at ha; cases ha
  refine ⟨a, b, ws, vs, rfl, rfl, (upd_ne hab).trans ha, upd_same, by rw [hl.len, hv.len]; exact hk2, fun q hq => ?_⟩
  obtain ⟨s2, g2⟩ := (s1.mono gb).own_new (k := k) hq ((hl.mono gb).app (hv.mono gb))
  exact eo.nx _ _ F' _ n' s2 (g.later.trans (gb.later.trans g2.later)) hk
/-! ### a, b, c = x, y, z -/
def dPar3 (i j l : Nat) (t : TD (List D)) : TDS := fun E ρ n => t ρ (fun ds n' => match ds with
  | [d, e, f] => E.nx (((ρ.set i (some (.d d))).set j (some (.d e))).set l (some (.d f))) n'
  | _ => False) (fun x n' => E.ex x ρ n') n
theorem DS.par3 {i j l : Nat} {x y z : Str} {a b c : Expr} {ta : TD (List D)} {px py pz pt pos : Pos} {kt k2 pt2} (hc : ∀ k, (X k).calm = true) (hN : ∀ k, (X k).N.Nodup) (hi : ∀ k, (X k).N[i]? = some x) (hj : ∀ k, (X k).N[j]? = some y) (hl : ∀ k, (X k).N[l]? = some z) (hij : i ≠ j) (hil : i ≠ l) (hjl : j ≠ l)
    (hx : ∀ k, (X k).env.scope.names.lookup x = some .local) (hy : ∀ k, (X k).env.scope.names.lookup y = some .local) (hz : ∀ k, (X k).env.scope.names.lookup z = some .local) (ha : DA X W [a, b, c] ta)
    (hw : ∀ k, swappedStores [.Tuple [.Name x px, .Name y py, .Name z pz] kt pt] (.Tuple [a, b, c] k2 pt2) (X k).env = pure (some [x, y, z]))
    (hs : ∀ k, swapsWithSole [.Tuple [.Name x px, .Name y py, .Name z pz] kt pt] (.Tuple [a, b, c] k2 pt2) pos.line (X k).env = pure false := by intro _; rfl) :
    DS X W (.Assign [.Tuple [.Name x px, .Name y py, .Name z pz] kt pt] (.Tuple [a, b, c] k2 pt2) pos) (dPar3 i j l ta) := by
  obtain ⟨tA, p, r⟩ := ha
  refine ⟨_, fun k => ps_par3 (hc k) (hN k) (hi k) (hj k) (hl k) hij hil hjl (hx k) (hy k) (hz k) (p k) (hw k) (hs k), fun B F H n σ ρ E Z s h eo => ?_⟩
  refine r F H n σ ρ _ _ _ s.hs h (fun vs ds F' H' n' g hv hk => ?_) fun cls od x F' H' n' g hx he => eo.ex cls od x σ ρ F' H' n' (s.mono g) g.later hx he
  match ds, hk with
  | [d, e, f], hk =>
    cases hv with
    | cons h1 hv =>
    cases hv with
    | cons h2 hv =>
    cases hv with
    | cons h3 hv =>
    cases hv
    exact ⟨_, _, _, rfl, eo.nx _ _ F' H' n' ((((s.mono g).set h1).set h2).set h3) g.later hk⟩
end
/-! ### a loop by a measure -/
theorem whileD_inv {c : TD Bool} {tb : TDS} {E : DEnds} (I : Nat → Env' → Nat → Prop) (hs : ∀ (m : Nat) (ρ : Env') (n : Nat) (E' : DEnds), I m ρ n → (∀ m' ρ n, m' < m → I m' ρ n → E'.nx ρ n ∧ E'.ct ρ n) → (∀ ρ n, E.nx ρ n → E'.bk ρ n) → E'.rt = E.rt → E'.ex = E.ex →
    onT c (fun b ρ' n' => if b = true then tb E' ρ' n' else E.nx ρ' n') E ρ n) : ∀ (m : Nat) (ρ : Env') (n : Nat), I m ρ n → ∀ k, m < k → whileD c tb k E ρ n := by
  intro m
  induction m using Nat.strongRecOn with
  | _ m ih =>
    intro ρ n hi k hk
    cases k with
    | zero => omega
    | succ k =>
      unfold whileD
      exact hs m ρ n { E with nx := fun ρ'' n'' => whileD c tb k E ρ'' n'', ct := fun ρ'' n'' => whileD c tb k E ρ'' n'', bk := E.nx } hi (fun m' ρ' n' hm hi' => ⟨ih m' hm ρ' n' hi' k (by omega), ih m' hm ρ' n' hi' k (by omega)⟩) (fun _ _ z => z) rfl rfl
theorem _root_.L2.Room.units65 {k : Nat} {A : Around} (r : Room k A) : A.units + 65 < cLine := by have := r.un; omega
end DL


set_option maxRecDepth 100000
set_option maxHeartbeats 2000000
/-! DL17: recursion's start, comprehensions as maps, rows of the new words. Own work. -/
namespace DL
open PySem PySem.Spec PyProof.Rows L2
theorem def_false {P : Program} {w : World} {K : PySem.W.Frag} {mg : Str → Option Value} {base : Heap} {x : Str} {st : Stmt} {ps : List Str} {k : Nat} {w' : List D → Wm D} (F : DefF K mg x st ps) (h : ∀ ds Kd Kx n, w' ds Kd Kx n → False) : DefG P w K mg base x ps k w' := by
  obtain ⟨f, fd, F, m, b⟩ := F.ex
  exact ⟨f, fd, ⟨fun vs H Q E hs => hs.1, fun A outer s H args us vs Q E _ _ _ _ _ hs => by
    obtain ⟨_, F0, n, ds, Kd, Kx, _, _, hw, _⟩ := hs
    exact (h _ _ _ _ hw).elim⟩, m, F.kp, b⟩
theorem DefG.mono {P : Program} {w : World} {K : PySem.W.Frag} {mg : Str → Option Value} {base : Heap} {x : Str} {ps : List Str} {j k : Nat} {w' : List D → Wm D} (h : DefG P w K mg base x ps j w') (hk : j ≤ k) : DefG P w K mg base x ps k w' := by
  obtain ⟨f, fd, F, m, q, b⟩ := h.ex
  exact ⟨f, fd, F.mono hk, m, q, b⟩
/-- the same def by a promise that asks more -/
theorem DefG.imp {P : Program} {w : World} {K : PySem.W.Frag} {mg : Str → Option Value} {base : Heap} {x : Str} {ps : List Str} {k : Nat} {w1 w2 : List D → Wm D} (h : DefG P w K mg base x ps k w1) (hi : ∀ ds Kd Kx n, w2 ds Kd Kx n → w1 ds Kd Kx n) : DefG P w K mg base x ps k w2 := by
  obtain ⟨f, fd, F, m, q, b⟩ := h.ex
  exact ⟨f, fd, F.imp fun vs H Q E ⟨a, F0, n, ds, Kd, Kx, pb, hv, hw, r⟩ => ⟨a, F0, n, ds, Kd, Kx, pb, hv, hi _ _ _ _ hw, r⟩, m, q, b⟩
/-- a comprehension that calls no pen -/
theorem lcD_map {g : TDG} {te : TD D} {f : D → D} {ρ : Env'} {n : Nat} {X : XD → Nat → Prop} : ∀ (ts acc : List D) (K : List D → Nat → Prop), acc.length + ts.length < sizeLine → (∀ t ∈ ts, ∃ ρ', g t ρ = some ρ' ∧ ∀ K : D → Nat → Prop, K (f t) n → te ρ' K XFalse n) → K (acc ++ ts.map f) n → lcD g (fun _ => pure true) te ts ρ acc K X n
  | [], acc, K, _, _, hk => by
    have hk : K (acc ++ []) n := hk
    rw [List.append_nil] at hk
    exact hk
  | t :: ts, acc, K, hl, h, hk => by
    obtain ⟨ρ', e, ht⟩ := h t List.mem_cons_self
    rw [List.length_cons] at hl
    unfold lcD
    rw [e]
    refine ht _ ⟨by omega, ?_⟩
    refine lcD_map ts (acc ++ [f t]) K (by simp; omega) (fun t' ht' => h t' (List.mem_cons_of_mem _ ht')) ?_
    rw [List.append_assoc]
    exact hk
/-- a loop, by what is left of the list -/
theorem forD_list {g : TDG} {tb : TDS} {E : DEnds} (I : List D → Env' → Nat → Prop) : ∀ (ds : List D) (ρ : Env') (n : Nat), I ds ρ n → (∀ ρ n, I [] ρ n → E.nx ρ n) →
    (∀ (d : D) (ds : List D) (ρ : Env') (n : Nat) (E' : DEnds), I (d :: ds) ρ n → (∀ ρ n, I ds ρ n → E'.nx ρ n) → (∀ ρ n, E.nx ρ n → E'.bk ρ n) → E'.rt = E.rt → E'.ex = E.ex → match g d ρ with | some ρ' => tb E' ρ' n | none => False) → forD g tb ds E ρ n
  | [], ρ, n, h, h0, _ => h0 ρ n h
  | d :: ds, ρ, n, h, h0, hs => by
    have z := hs d ds ρ n { E with nx := fun ρ'' n'' => forD g tb ds E ρ'' n'', ct := fun ρ'' n'' => forD g tb ds E ρ'' n'', bk := E.nx } h (fun ρ n hi => forD_list I ds ρ n hi h0 hs) (fun _ _ z => z) rfl rfl
    unfold forD
    exact z
/-- .. of a list of known items by their images -/
theorem forD_map {α : Type} {g : TDG} {tb : TDS} {E : DEnds} (f : α → D) (I : List α → Env' → Nat → Prop) : ∀ (xs : List α) (ρ : Env') (n : Nat), I xs ρ n → (∀ ρ n, I [] ρ n → E.nx ρ n) →
    (∀ (x : α) (xs : List α) (ρ : Env') (n : Nat) (E' : DEnds), I (x :: xs) ρ n → (∀ ρ n, I xs ρ n → E'.nx ρ n) → E'.rt = E.rt → E'.ex = E.ex → match g (f x) ρ with | some ρ' => tb E' ρ' n | none => False) → forD g tb (xs.map f) E ρ n
  | [], ρ, n, h, h0, _ => h0 ρ n h
  | x :: xs, ρ, n, h, h0, hs => by
    have z := hs x xs ρ n { E with nx := fun ρ'' n'' => forD g tb (xs.map f) E ρ'' n'', ct := fun ρ'' n'' => forD g tb (xs.map f) E ρ'' n'', bk := E.nx } h (fun ρ n hi => forD_map f I xs ρ n hi h0 hs) rfl rfl
    rw [List.map_cons]
    unfold forD
    exact z
theorem s_par3 {i j l : Nat} {t : TD (List D)} {E : DEnds} {ρ : Env'} {n : Nat} : dPar3 i j l t E ρ n = t ρ (fun ds n' => match ds with
  | [d, e, f] => E.nx (((ρ.set i (some (.d d))).set j (some (.d e))).set l (some (.d f))) n'
  | _ => False) (fun x n' => E.ex x ρ n') n := rfl
theorem fCut_lst {ds : List D} {lo hi : Option Int} {K : D → Nat → Prop} {X : XD → Nat → Prop} {n : Nat} : fCut (.lst ds) lo hi K X n = K (.lst (cutD ds lo hi)) n := rfl
theorem fCut_at {ds : List D} {lo hi : Option Int} {K : D → Nat → Prop} {X : XD → Nat → Prop} {n : Nat} : fCut (.tup ds) lo hi K X n = K (.tup (cutD ds lo hi)) n := rfl
theorem fAdd_lst {xs ys : List D} {K : D → Nat → Prop} {X : XD → Nat → Prop} {n : Nat} : fAdd (.lst xs) (.lst ys) K X n = (Fits (xs.length + ys.length) ∧ K (.lst (xs ++ ys)) n) := rfl
theorem fAdd_tup {xs ys : List D} {K : D → Nat → Prop} {X : XD → Nat → Prop} {n : Nat} : fAdd (.tup xs) (.tup ys) K X n = (Fits (xs.length + ys.length) ∧ K (.tup (xs ++ ys)) n) := rfl
theorem fList_lst {xs : List D} {K : D → Nat → Prop} {X : XD → Nat → Prop} {n : Nat} : fList [.lst xs] K X n = K (.lst xs) n := rfl
theorem fList_tup {xs : List D} {K : D → Nat → Prop} {X : XD → Nat → Prop} {n : Nat} : fList [.tup xs] K X n = K (.lst xs) n := rfl
theorem fTuple_lst {xs : List D} {K : D → Nat → Prop} {X : XD → Nat → Prop} {n : Nat} : fTuple [.lst xs] K X n = K (.tup xs) n := rfl
theorem fMul_lst {xs : List D} {k : Int} {K : D → Nat → Prop} {X : XD → Nat → Prop} {n : Nat} : fMul (.lst xs) (.int k) K X n = ((-(2 ^ 63) ≤ k ∧ k < 2 ^ 63 ∧ Fits (xs.length * k.toNat)) ∧ K (.lst (List.replicate k.toNat xs).flatten) n) := rfl
theorem items_lst {xs : List D} {K : List D → Nat → Prop} {X : XD → Nat → Prop} {n : Nat} : itemsOf (.lst xs) K X n = K xs n := rfl
theorem items_tup {xs : List D} {K : List D → Nat → Prop} {X : XD → Nat → Prop} {n : Nat} : itemsOf (.tup xs) K X n = K xs n := rfl
theorem range2_at {i j : Int} {K : List D → Nat → Prop} {X : XD → Nat → Prop} {n : Nat} : rangeOf2 [.int i, .int j] K X n = ((Small62 i ∧ Small62 j) ∧ K (rangeD i (j - i).toNat) n) := rfl
theorem zip_at {xs ys : List D} {K : List D → Nat → Prop} {X : XD → Nat → Prop} {n : Nat} : zipOf [.lst xs, .lst ys] K X n = K ((xs.zip ys).map fun p => .tup [p.1, p.2]) n := rfl
theorem fIx_t {ds : List D} {i : Int} {d : D} {K : D → Nat → Prop} {X : XD → Nat → Prop} {n : Nat} (e : atI ds i = some d) : fIx (.tup ds) (.int i) K X n = K d n := by
  show (match atI ds i with
    | some d => (pure d : Wm D)
    | none => Wm.fail) K X n = _
  rw [e]
  rfl
theorem fIx_l {ds : List D} {i : Int} {d : D} {K : D → Nat → Prop} {X : XD → Nat → Prop} {n : Nat} (e : atI ds i = some d) : fIx (.lst ds) (.int i) K X n = K d n := by
  show (match atI ds i with
    | some d => (pure d : Wm D)
    | none => Wm.fail) K X n = _
  rw [e]
  rfl
theorem g_tup2 {i j : Nat} {d e : D} {ρ : Env'} : dgTup 2 (dgCons (dName i) (dgCons (dName j) dgNil)) (.tup [d, e]) ρ = some ((ρ.set i (some (.d d))).set j (some (.d e))) := rfl
theorem g_tup3 {i j l : Nat} {d e f : D} {ρ : Env'} : dgTup 3 (dgCons (dName i) (dgCons (dName j) (dgCons (dName l) dgNil))) (.tup [d, e, f]) ρ = some (((ρ.set i (some (.d d))).set j (some (.d e))).set l (some (.d f))) := rfl
theorem fNotN_at {d : D} {K : D → Nat → Prop} {X : XD → Nat → Prop} {n : Nat} : fNotN d .non K X n = K (.bl (!nonB d)) n := rfl
theorem fIsN_at {d : D} {K : D → Nat → Prop} {X : XD → Nat → Prop} {n : Nat} : fIsN d .non K X n = K (.bl (nonB d)) n := rfl
theorem s_lc {ti : TD (List D)} {g : TDG} {tt : TD Bool} {te : TD D} {vs : List Nat} {ρ : Env'} {K : D → Nat → Prop} {X : XD → Nat → Prop} {n : Nat} : dLc ti g tt te vs ρ K X n = ti ρ (fun ds n' => lcD g tt te ds (wipeD ρ vs) [] (fun ys n'' => K (.lst ys) n'') X n') X n := rfl
theorem cut_last {ds : List D} {d : D} : cutD (ds ++ [d]) none (some (-1)) = ds := by
  unfold cutD
  have e1 : HT.sIx (ds ++ [d]).length 0 none = 0 := rfl
  have e2 : HT.sIx (ds ++ [d]).length (ds ++ [d]).length (some (-1)) = ds.length := by
    show (if (-1 : Int) < 0 then ((-1 : Int) + ((ds ++ [d]).length : Int)).toNat else min (-1 : Int).toNat (ds ++ [d]).length) = _
    rw [if_pos (by decide), List.length_append]
    simp
    omega
  rw [e1, e2, List.drop_zero, Nat.sub_zero, List.take_left]
theorem cut_tail {d : D} {ds : List D} : cutD (d :: ds) (some 1) none = ds := by
  unfold cutD
  have e : HT.sIx (d :: ds).length 0 (some 1) = 1 := by unfold HT.sIx; simp
  have e2 : HT.sIx (d :: ds).length (d :: ds).length none = ds.length + 1 := by unfold HT.sIx; rfl
  rw [e, e2]
  simp
theorem cut_head {ds : List D} {k : Nat} (h : k ≤ ds.length) : cutD ds none (some (k : Int)) = ds.take k := by
  unfold cutD
  have e1 : HT.sIx ds.length 0 none = 0 := rfl
  rw [e1, HT.sIx_nat, List.drop_zero, Nat.sub_zero, Nat.min_eq_left h]
theorem atI_last {ds : List D} {d : D} : atI (ds ++ [d]) (-1) = some d := by
  unfold L2.atI L2.ixN
  rw [List.length_append]
  simp
  rw [if_pos (by omega)]
  have e : (-1 + ((ds.length : Int) + 1)).toNat = ds.length := by omega
  rw [e]
  simp
theorem fIx_last {ds : List D} {d : D} {K : D → Nat → Prop} {X : XD → Nat → Prop} {n : Nat} : fIx (.tup (ds ++ [d])) (.int (-1)) K X n = K d n := fIx_t atI_last
theorem lsub {l : Nat} : ((l + 1 : Nat) : Int) - 1 = (l : Int) := by omega
theorem atI_of {ds : List D} {k : Nat} {d : D} (h : ds[k]? = some d) : atI ds (k : Int) = some d := by
  have hk : k < ds.length := (List.getElem?_eq_some_iff.mp h).1
  unfold L2.atI L2.ixN
  simp
  rw [if_pos (by omega)]
  simpa using h
theorem bools_map : ∀ bs : List Bool, boolsOf (bs.map D.bl) = some bs
  | [] => rfl
  | b :: bs => by
    show (boolOf (.bl b)).bind (fun c => (boolsOf (bs.map D.bl)).map (c :: ·)) = _
    rw [bools_map bs]
    rfl
theorem fAll_bools {bs : List Bool} {K : D → Nat → Prop} {X : XD → Nat → Prop} {n : Nat} : fAll (fun bs => bs.all id) [D.lst (bs.map D.bl)] K X n = K (.bl (bs.all id)) n := by
  show (match boolsOf (bs.map D.bl) with
    | some bs => (pure (.bl (bs.all id)) : Wm D)
    | none => Wm.fail) K X n = _
  rw [bools_map]
  rfl
/-- of data of bounded depth, without dicts, objects, .. -/
def okDp : Nat → D → Bool
  | 0, _ => false
  | j + 1, d => match d with
    | .tup ds => decide (ds.length ≤ 1000) && ds.all (okDp j)
    | .lst ds => decide (ds.length ≤ 1000) && ds.all (okDp j)
    | .non => true
    | .bl _ => true
    | .int _ => true
    | .str _ => true
    | _ => false
mutual
/-- lists are tuples -/
def tupled : D → D
  | .tup ds => .tup (tupledL ds)
  | .lst ds => .tup (tupledL ds)
  | .non => .non
  | .bl b => .bl b
  | .int i => .int i
  | .str x => .str x
  | .dic ks ds => .dic ks ds
  | .obj C ns ds => .obj C ns ds
  | .exc C ns ds => .exc C ns ds
  | .pen => .pen
  | .clo b r ds => .clo b r ds
  | .fnA a => .fnA a
  | .scr K ns t => .scr K ns t
def tupledL : List D → List D
  | [] => []
  | d :: ds => tupled d :: tupledL ds
end
mutual
/-- tuples are lists -/
def listed : D → D
  | .tup ds => .lst (listedL ds)
  | .lst ds => .lst ds
  | .non => .non
  | .bl b => .bl b
  | .int i => .int i
  | .str x => .str x
  | .dic ks ds => .dic ks ds
  | .obj C ns ds => .obj C ns ds
  | .exc C ns ds => .exc C ns ds
  | .pen => .pen
  | .clo b r ds => .clo b r ds
  | .fnA a => .fnA a
  | .scr K ns t => .scr K ns t
def listedL : List D → List D
  | [] => []
  | d :: ds => listed d :: listedL ds
end
theorem tupledL_map : ∀ ds : List D, tupledL ds = ds.map tupled
  | [] => by unfold tupledL; rfl
  | d :: ds => by unfold tupledL; rw [tupledL_map ds]; rfl
theorem listedL_map : ∀ ds : List D, listedL ds = ds.map listed
  | [] => by unfold listedL; rfl
  | d :: ds => by unfold listedL; rw [listedL_map ds]; rfl
theorem s_pop {k : Nat} {g : TDG} {E : DEnds} {ρ : Env'} {n : Nat} {ds : List D} {d : D} (e : ρ[k]? = some (some (.ml (ds ++ [d])))) : dPop k g E ρ n = match g d (ρ.set k (some (.ml ds))) with | some ρ' => E.nx ρ' n | none => False := by
  unfold dPop
  rw [e]
  (simp only [List.getLast?_concat, List.dropLast_concat]) <;> rfl
theorem s_ownCat {k : Nat} {t : TD (List D)} {E : DEnds} {ρ : Env'} {n : Nat} : dOwnCat k t E ρ n = t ρ (fun es n' => match ρ[k]? with
  | some (some (.ml ds)) => (Fits es.length ∧ Fits (ds.length + es.length)) ∧ E.nx (ρ.set k (some (.ml (ds ++ es)))) n'
  | _ => False) (fun x n' => E.ex x ρ n') n := rfl
theorem okDp_tup {j : Nat} {ds : List D} (h : okDp (j + 1) (.tup ds) = true) : ds.length ≤ 1000 ∧ ∀ d ∈ ds, okDp j d = true := by
  have h : (decide (ds.length ≤ 1000) && ds.all (okDp j)) = true := h
  rw [Bool.and_eq_true] at h
  exact ⟨of_decide_eq_true h.1, List.all_eq_true.mp h.2⟩
theorem okDp_lst {j : Nat} {ds : List D} (h : okDp (j + 1) (.lst ds) = true) : ds.length ≤ 1000 ∧ ∀ d ∈ ds, okDp j d = true := by
  have h : (decide (ds.length ≤ 1000) && ds.all (okDp j)) = true := h
  rw [Bool.and_eq_true] at h
  exact ⟨of_decide_eq_true h.1, List.all_eq_true.mp h.2⟩
theorem baseL_of : ∀ {ds : List D}, (∀ d ∈ ds, baseD d = true) → baseL ds = true
  | [], _ => by unfold baseL; rfl
  | d :: ds, h => by
    unfold baseL
    rw [h d List.mem_cons_self, baseL_of fun e he => h e (List.mem_cons_of_mem _ he)]
    rfl
theorem okDp_base : ∀ {j : Nat} {d : D}, okDp j d = true → baseD d = true
  | 0, _, h => by cases h
  | j + 1, d, h => by
    cases d with
    | tup ds => unfold baseD; exact baseL_of fun d hd => okDp_base ((okDp_tup h).2 d hd)
    | lst ds => unfold baseD; exact baseL_of fun d hd => okDp_base ((okDp_lst h).2 d hd)
    | non => rfl
    | bl b => rfl
    | int i => rfl
    | str x => rfl
    | _ => cases h
theorem okDp_succ : ∀ {j : Nat} {d : D}, okDp j d = true → okDp (j + 1) d = true
  | 0, _, h => by cases h
  | j + 1, d, h => by
    cases d with
    | tup ds =>
      obtain ⟨h1, h2⟩ := okDp_tup h
      show (decide (ds.length ≤ 1000) && ds.all (okDp (j + 1))) = true
      rw [decide_eq_true h1, Bool.true_and, List.all_eq_true]
      exact fun d hd => okDp_succ (h2 d hd)
    | lst ds =>
      obtain ⟨h1, h2⟩ := okDp_lst h
      show (decide (ds.length ≤ 1000) && ds.all (okDp (j + 1))) = true
      rw [decide_eq_true h1, Bool.true_and, List.all_eq_true]
      exact fun d hd => okDp_succ (h2 d hd)
    | non => rfl
    | bl b => rfl
    | int i => rfl
    | str x => rfl
    | _ => cases h
theorem okDp_tupled : ∀ {j : Nat} {d : D}, okDp j d = true → okDp j (tupled d) = true
  | 0, _, h => by cases h
  | j + 1, d, h => by
    have key : ∀ ds : List D, ds.length ≤ 1000 → (∀ d ∈ ds, okDp j d = true) → okDp (j + 1) (.tup (tupledL ds)) = true := fun ds h1 h2 => by
      show (decide ((tupledL ds).length ≤ 1000) && (tupledL ds).all (okDp j)) = true
      rw [tupledL_map, List.length_map, decide_eq_true h1, Bool.true_and, List.all_eq_true]
      intro d hd
      obtain ⟨e, he, rfl⟩ := List.mem_map.mp hd
      exact okDp_tupled (h2 e he)
    cases d with
    | tup ds => obtain ⟨h1, h2⟩ := okDp_tup h; exact key ds h1 h2
    | lst ds => obtain ⟨h1, h2⟩ := okDp_lst h; exact key ds h1 h2
    | non => rfl
    | bl b => rfl
    | int i => rfl
    | str x => rfl
    | _ => cases h
theorem okDp_item {j : Nat} {ds : List D} {d : D} (h : okDp j (.tup ds) = true) (hd : d ∈ ds) : okDp j d = true := by
  cases j with
  | zero => cases h
  | succ j => exact okDp_succ ((okDp_tup h).2 d hd)
theorem isi_tupled {Kf : PySem.W.Frag} {d : D} {j : Nat} {K : D → Nat → Prop} {X : XD → Nat → Prop} {n : Nat} (h : okDp j d = true) : fIsi1 Kf (.type "tuple") (tupled d) K X n = K (.bl (tupB (tupled d))) n := isi_tuple (okDp_base (okDp_tupled h))
/-- a loop over a range, by its index -/
theorem forD_range {g : TDG} {tb : TDS} {E : DEnds} (I : Nat → Env' → Nat → Prop) (L : Nat) (ρ : Env') (n : Nat) (h : I 0 ρ n) (h0 : ∀ ρ n, I L ρ n → E.nx ρ n)
    (hs : ∀ (i : Nat) (ρ : Env') (n : Nat) (E' : DEnds), i < L → I i ρ n → (∀ ρ n, I (i + 1) ρ n → E'.nx ρ n) → E'.rt = E.rt → E'.ex = E.ex → match g (.int (i : Int)) ρ with | some ρ' => tb E' ρ' n | none => False) : forD g tb (rangeD 0 L) E ρ n := by
  unfold rangeD
  have e : (List.range L).map (fun j : Nat => D.int (0 + (j : Int))) = (List.range' 0 L).map fun j : Nat => D.int (j : Int) := by
    rw [List.range_eq_range']
    simp
  rw [e]
  refine forD_map (fun j : Nat => D.int (j : Int)) (fun rem ρ n => ∃ i, i ≤ L ∧ rem = List.range' i (L - i) ∧ I i ρ n) _ _ _ ⟨0, Nat.zero_le _, by rw [Nat.sub_zero], h⟩ (fun ρ n hi => ?_) (fun x xs ρ n E' hi hnx hrt hex => ?_)
  · obtain ⟨i, hi, e, h⟩ := hi
    have : i = L := by
      have := congrArg List.length e
      simp at this
      omega
    subst this
    exact h0 ρ n h
  · obtain ⟨i, hi, e, h⟩ := hi
    have hlt : i < L := by
      rcases Nat.lt_or_ge i L with h | h
      · exact h
      · rw [show L - i = 0 by omega] at e
        simp at e
    rw [show L - i = (L - (i + 1)) + 1 by omega, List.range'_succ] at e
    obtain ⟨e1, e2⟩ := List.cons.inj e
    subst e1
    exact hs x ρ n E' hlt h (fun ρ n hi => hnx ρ n ⟨x + 1, hlt, e2, hi⟩) hrt hex
theorem own_intro {k : Nat} {t : TD (List D)} {E : DEnds} {ρ : Env'} {n : Nat} (h : t ρ (fun ds n' => Fits ds.length ∧ E.nx (ρ.set k (some (.ml ds))) n') (fun x n' => E.ex x ρ n') n) : dOwn k t E ρ n := h
theorem app_intro {k : Nat} {t : TD D} {E : DEnds} {ρ : Env'} {n : Nat} {ds : List D} (e : ρ[k]? = some (some (.ml ds))) (h : t ρ (fun d n' => ds.length < sizeLine ∧ E.nx (ρ.set k (some (.ml (ds ++ [d])))) n') (fun x n' => E.ex x ρ n') n) : dAppend k t E ρ n := by
  unfold dAppend
  rw [e]
  exact h
theorem frz_intro {k : Nat} {t : TDS} {E : DEnds} {ρ : Env'} {n : Nat} {ds : List D} (e : ρ[k]? = some (some (.ml ds))) (h : t E (ρ.set k (some (.d (.lst ds)))) n) : dFreeze k t E ρ n := by
  unfold dFreeze
  rw [e]
  exact h
end DL


set_option maxRecDepth 100000
set_option maxHeartbeats 2000000
/-! DL18: defs as values, written pairs in a for. Own work. -/
namespace DL
open PySem PySem.Spec PyProof.Rows L2
section
variable {ι : Type} {X : ι → Cx} {W : WX}
/-- the name of a def, as a value -/
theorem DE.fnv {x : Str} {f : Addr} {pos : Pos} (hg : ∀ j, Gl (X j) x) (hm : ∀ j, (X j).mg x = some (.ref f)) (hd : (x == ("__debug__" : Str)) = false := by decide) : DE X W (.Name x pos) (fun _ => pure (.fnA f)) :=
  .const (fun j => pe_glob (v := .ref f) (hg j) (hm j) rfl hd) fun _ _ => .fnA f
end
/-- a lambda that captures nothing is a value as it lies -/
theorem Has.bare {F : Addr → Prop} {H : Hp} {v : V} {r : CloR} (e : r.cl = []) : Has F H v (.clo false r []) → Has F H v (.clo true r [])
  | .clo0 f h fc hc => .clo1 (vs := []) f h fc hc (by rw [e]; rfl) (by rw [e]; intro p hp; cases hp) .nil
end DL


set_option maxRecDepth 100000
set_option maxHeartbeats 2000000
/-! DL19: functions as values: captured, called with arguments. Own work over HandS (clo_okB, DE.tellB: as in DL8, DL9, for captured functions). -/
namespace DL
open PySem PySem.Spec PyProof.Rows L2

/-- plain, or a lambda that captures nothing -/
def bareB : D → Bool
  | .clo _ r ds => r.cl.isEmpty && ds.isEmpty
  | d => plainD d
theorem bare_plain : ∀ {d : D}, plainD d = true → bareB d = true := fun {d} h => by cases d <;> first | exact h | (unfold plainD at h; cases h)
section
variable {l : List Addr} {F F' : Addr → Prop} {H H' f : Hp} {n n' : Nat}
theorem Has.cutB {P : Program} {w : World} {h : Heap} (fx : Fixed l H) (ok : HOk P w H h) (hl : ∀ c ∈ l, ∃ o u, H c = some (FixO c o) ∧ o.data = .cell (some u)) {v : V} {d : D} (hv : Has F H v d) (e : bareB d = true) : Has (cutF l F) (DL.cut l H) v d := by
  have fo : ∀ {a : Addr} {r : CloR}, H a = some (FixO a r.obj) → a ∉ l := fun {a r} e1 z => by
    obtain ⟨o, u, e2, e3⟩ := hl a z
    have x1 := fixO_at ok e1
    have x2 := fixO_at ok e2
    rw [x1] at x2
    cases x2
    cases e3
  cases d with
  | clo b r ds =>
    have e' : (r.cl.isEmpty && ds.isEmpty) = true := e
    rw [Bool.and_eq_true, List.isEmpty_iff, List.isEmpty_iff] at e'
    obtain ⟨ec, rfl⟩ := e'
    cases hv with
    | clo0 Fa ha Fc hc => exact .clo0 ⟨Fa, fo ha⟩ ((cut_out (fo ha)).trans ha) ⟨Fc, cod_out ok hl hc⟩ ((cut_out (cod_out ok hl hc)).trans hc)
    | @clo1 _ _ vs _ Fa ha Fc hc hn hs hd =>
      have ev : vs = [] := by rw [ec] at hn; exact List.eq_nil_of_length_eq_zero hn
      subst ev
      exact .clo1 ⟨Fa, fo ha⟩ ((cut_out (fo ha)).trans ha) ⟨Fc, cod_out ok hl hc⟩ ((cut_out (cod_out ok hl hc)).trans hc) hn (by rw [ec]; intro p hp; cases hp) .nil
  | _ => exact hv.cut fx e
theorem HasL.cutB {P : Program} {w : World} {h : Heap} (fx : Fixed l H) (ok : HOk P w H h) (hl : ∀ c ∈ l, ∃ o u, H c = some (FixO c o) ∧ o.data = .cell (some u)) : ∀ {vs : List V} {ds : List D}, HasL F H vs ds → ds.all bareB = true → HasL (cutF l F) (DL.cut l H) vs ds
  | _, _, .nil, _ => .nil
  | _, _, .cons hv k, e => by
    rw [List.all_cons, Bool.and_eq_true] at e
    exact .cons (Has.cutB fx ok hl hv e.1) (HasL.cutB fx ok hl k e.2)
theorem Has.layB (hn : ∀ c ∈ l, H c = none) {v : V} {d : D} (hv : Has F H v d) (e : bareB d = true) : Has (layF l F) (DL.lay l f H) v d := by
  have off : ∀ {a : Addr} {u : HO}, H a = some u → a ∉ l := fun q z => by rw [hn _ z] at q; cases q
  cases d with
  | clo b r ds =>
    have e' : (r.cl.isEmpty && ds.isEmpty) = true := e
    rw [Bool.and_eq_true, List.isEmpty_iff, List.isEmpty_iff] at e'
    obtain ⟨ec, rfl⟩ := e'
    cases hv with
    | clo0 Fa ha Fc hc => exact .clo0 (.inl Fa) ((lay_out (off ha)).trans ha) (.inl Fc) ((lay_out (off hc)).trans hc)
    | @clo1 _ _ vs _ Fa ha Fc hc hl hs hd =>
      have ev : vs = [] := by rw [ec] at hl; exact List.eq_nil_of_length_eq_zero hl
      subst ev
      exact .clo1 (.inl Fa) ((lay_out (off ha)).trans ha) (.inl Fc) ((lay_out (off hc)).trans hc) hl (by rw [ec]; intro p hp; cases hp) .nil
  | _ => exact hv.lay hn e
end

/-! ### a lambda with parameters, that captures nothing -/
/-- what such a lambda's scope must be -/
structure CloScopeP (N : List Str) (r : CloR) : Prop where
  kind : r.scope.kind = .function
  co : r.scope.isCoroutine = false
  gen : r.scope.isGenerator = false
  own : ∀ y ∈ r.scope.names, y.2 ≠ .cell ∧ y.2 ≠ .free
  cl : r.cl = []
  nodup : N.Nodup
  par : ∀ x ∈ N, r.scope.names.lookup x = some .local
  bind : ∀ us : List Value, us.length = N.length → bindArgs (PySem.W.kla_fn "<lambda>" r.qual r.params r.body r.scope r.cl r.pm (.ref r.code) r.ctv) ⟨us, []⟩ = pure (N.zip us)
theorem lookup_mem_nodup {α : Type} {l : List (Str × α)} (nd : (l.map (·.1)).Nodup) : ∀ {y : Str} {c : α}, (y, c) ∈ l → l.lookup y = some c := by
  induction l with
  | nil => intro y c e; cases e
  | cons p l ih =>
    obtain ⟨z, d⟩ := p
    intro y c e
    rw [List.map_cons, List.nodup_cons] at nd
    rcases List.mem_cons.mp e with e | e
    · cases e
      simp [List.lookup]
    · have hy : y ∈ l.map (·.1) := List.mem_map.mpr ⟨_, e, rfl⟩
      have hne : y ≠ z := fun h => nd.1 (h ▸ hy)
      have hb : (y == z) = false := by simpa using hne
      simp only [List.lookup, hb]
      exact ih nd.2 e
theorem lookup_zip_rev {N : List Str} {us : List Value} (nd : N.Nodup) (hl : us.length = N.length) {i : Nat} {y : Str} {u : Value} (h1 : N[i]? = some y) (h2 : us[i]? = some u) : (N.zip us).reverse.lookup y = some u := by
  refine lookup_mem_nodup ?_ ?_
  · rw [List.map_reverse, List.map_fst_zip (by omega)]
    exact List.pairwise_reverse.mpr (nd.imp fun h => Ne.symm h)
  · rw [List.mem_reverse]
    exact List.mem_of_getElem? (i := i) (by rw [List.getElem?_zip_eq_some]; exact ⟨h1, h2⟩)
section
variable {P : Program} {w : World} {K : PySem.W.Frag} {mg : Str → Option Value} {base : Heap} {N : List Str} {r : CloR} {A : Around} {outer : List Env} {s : Shared} {H : Hp} {E : XK} {f : Addr} {vs : List V} {us : List Value}
theorem cloP_start (S : CloScopeP N r) (e0 : Env0 P w K mg base A outer s H) (hd : A.handled = none) (hl : us.length = N.length) (rv : Vals vs us)
    {h₁ : Heap} {tk : Nat} (hns : h₁.Ns s.heap.objs.size fun y => (N.zip us).reverse.lookup y) (kp : ∀ b o, s.heap.get? b = some o → h₁.get? b = some o) :
    Inv (cloCx P w K mg base N r A outer s H E f) [] (vs.map some) H { s with heap := h₁, toks := tk } := by
  have noA : ∀ b : Addr, b ∉ (cloCx P w K mg base N r A outer s H E f).ex := fun b z => absurd (show b ∈ ([] : List Addr) from z) (by simp)
  have nol : ∀ {y : Str} {c : Addr}, r.cl.lookup y = some c → False := fun {y c} e => by rw [S.cl] at e; cases e
  refine ⟨⟨e0.mod, S.kind, rfl, rfl, Nat.le_refl _, fun x y c e _ => (nol e).elim, fun y hy => ?_, fun y c z _ => ?_, fun _ => hd, Around.frames_deeper e0.frames, .inr ⟨rfl, rfl⟩, fun b z => absurd z (noA b), e0.bs, e0.bsz, fun b _ _ => noA b,
      fun b z => absurd z (noA b), e0.funs, e0.frf⟩,
    rfl, e0.bare, Un.kept kp, ⟨_, hns, fun i y v e1 e2 e3 => ?_⟩, fun y c e => (nol e).elim, e0.hok.fresh (Nat.le_refl _), fun y c e => (nol e).elim, fun q hq => absurd (show q ∈ ([] : List (Addr × Obj)) ++ [] from hq) (by simp), e0.hok.kept kp, ?_⟩
  · have hy : r.scope.names.lookup y = some .cell ∨ r.scope.names.lookup y = some .free := hy
    rcases hy with hy | hy
    · exact absurd rfl (S.own _ (PySem.mem_of_lookup hy)).1
    · exact absurd rfl (S.own _ (PySem.mem_of_lookup hy)).2
  · have z : false = true := z
    cases z
  · rw [List.getElem?_map] at e2
    obtain ⟨v', e4, e5⟩ := Option.map_eq_some_iff.mp e2
    cases e5
    obtain ⟨u, hu, ru⟩ := rv.get e4
    have hN : y ∈ N := List.mem_of_getElem? e1
    exact ⟨u, ru, .inl ⟨S.par y hN, lookup_zip_rev S.nodup hl e1 hu⟩⟩
  · show (vs.map some).length = N.length
    rw [List.length_map, rv.length, hl]
end
/-- what a lambda with parameters promises -/
def CloSpN (P : Program) (w : World) (K : PySem.W.Frag) (mg : Str → Option Value) (base : Heap) (k : Nat) (r : CloR) (m : List D → Wm D) : Prop :=
  ∀ (A : Around) (outer : List Env) (s : Shared) (H : Hp) (F : Addr → Prop) (n : Nat) (f : Addr) (us : List Value) (vs : List V) (ds : List D) (Kd : D → Nat → Prop) (Xd : XD → Nat → Prop) (Q : VK) (E : XK), A.guards = some [] → Room k A → Env0 P w K mg base A outer s H → PenB F H n → H f = some (FixO f r.obj) → H r.code = some (CodO r.code r.qual) → Vals vs us → HasL F H vs ds → m ds Kd Xd n →
    (∀ v d F' H' n', Grow F H n F' H' n' → Has F' H' v d → Kd d n' → Q v H') → (∀ cls od xd F' H' n', Grow F H n F' H' n' → HasX F' H' cls od xd → Xd xd n' → E cls od H') → codeAny (model P w) A (.call (.ref f) ⟨us, []⟩) (CR (L2.CX P w) outer P w H s Q E) s
theorem cloP_ok {P : Program} {w : World} {K : PySem.W.Frag} {mg : Str → Option Value} {base : Heap} {N : List Str} {r : CloR} {k : Nat} {t : TD D} (S : CloScopeP N r)
    (hbody : ∀ (A : Around) (outer : List Env) (s : Shared) (H : Hp) (E : XK) (f : Addr), A.guards = some [] → Room k (A.deeper (cloEnv r s.heap.objs.size f)) → DE (fun _ : Unit => cloCx P w K mg base N r A outer s H E f) (bW E) r.body t) :
    CloSpN P w K mg base (k + 1) r (fun ds Kd Xd n => ds.length = N.length ∧ t (ds.map fun d => some (.d d)) Kd Xd n) := by
  intro A outer s H F n f us vs ds Kd Xd Q E hg hr e0 pb hf hco rv hds ⟨hln, hm⟩ hq hx
  have hof : s.heap.get? f = some r.obj := fixO_at e0.hok hf
  have hcode : s.heap.CodeRec (.ref r.code) r.qual := by
    have x : ObjOk P w H s.heap r.code (.ext fun h => ∃ (oc : Obj) (vs : Array Value) (t : Tok), h.get? r.code = some oc ∧ oc.data = .fields vs ∧ vs[1]? = some (.str r.qual t)) := e0.hok _ _ hco
    obtain ⟨⟨oc, vs, t, a, b, c⟩, _⟩ := x
    exact ⟨r.code, oc, vs, t, rfl, a, b, c⟩
  have hul : us.length = N.length := by rw [← rv.length, hds.len, hln]
  refine PySem.W.kla_callFunE hr.depth hof rfl S.co S.gen rfl hcode ?_
  rw [S.bind us hul]
  refine wpAny_pure (wpAny_newFunctionEnv (fun y hy => (S.own y hy).1) (fun y hy => S.par y.1 (List.of_mem_zip hy).1) (fun h₁ hns hsb => ⟨(e0.mod.nolimit.keeps fun b o e => (e0.bs b o e).1).fresh _ hsb, ?_⟩) S.kind)
  show codeAny _ _ (.expr r.body (cloEnv r s.heap.objs.size f)) _ _
  have kp : ∀ b o, s.heap.get? b = some o → h₁.get? b = some o := fun b o e => hsb.extBut b o (Nat.ne_of_lt (Heap.lt_size e)) (Heap.get?_push_of_some _ e)
  have J : Inv (cloCx P w K mg base N r A outer s H E f) [] (vs.map some) H { s with heap := h₁, toks := s.toks + (N.zip us).length } := cloP_start S e0 hr.hd hul rv hns kp
  obtain ⟨te, pe, re⟩ := hbody A outer s H E f hg (hr.deeper _)
  have hps : HasS F H n (vs.map some) (ds.map fun d => some (.d d)) := ⟨pb, by rw [List.length_map, List.length_map, hds.len], fun i x e => by
    rw [List.getElem?_map] at e
    obtain ⟨d, e1, e2⟩ := Option.map_eq_some_iff.mp e
    cases e2
    obtain ⟨v, e3, hv⟩ := hds.get e1
    exact ⟨v, by rw [List.getElem?_map, e3]; rfl, hv⟩⟩
  have ht : te (vs.map some) H (fun v H' => ∃ d F' n', Grow F H n F' H' n' ∧ Has F' H' v d ∧ Kd d n') := re _ _ n _ _ Kd Xd _ hps hm (fun v d F' H' n' g hv hk => ⟨d, F', n', g, hv, hk⟩) fun cls od xd F' H' n' g hx' hk => hx cls od xd F' H' n' g hx' hk
  refine PySem.W.kla_codeExpr (wpAny_mono ((pe ()).run [] _ _ H _ J ht) (fun v s' hq' => ?_) fun e s' z => wpAny_mono (show wpAny _ _ _ _ _ _ from z) (fun _ s'' z => z) fun _ s'' z => z)
  obtain ⟨v', H', J', rv', d, F', n', g, hv, hk⟩ := hq'
  exact ⟨v', H', J'.os, J'.bare, J'.base, J'.hok, rv', hq v' d F' H' n' g hv hk⟩

/-! ### work(x, y) -/
/-- a function may be called -/
def keepD (K : PySem.W.Frag) : D → Prop
  | .fnA a => PySem.W.keepIn K (.ref a) = true
  | .clo _ _ _ => True
  | _ => False
def actW (P : Program) (w : World) (K : PySem.W.Frag) (mg : Str → Option Value) (base : Heap) (k : Nat) : D → List D → Wm D
  | .fnA a => fun ds Kd Xd n => ∃ (fd : FuncData) (ps : List Str) (w' : List D → Wm D), FnG P w K mg base k a fd ps (spD ds.length w') ∧ Binds K fd ps [] ∧ w' ds Kd Xd n
  | .clo _ r _ => fun ds Kd Xd n => ∃ m : List D → Wm D, CloSpN P w K mg base k r m ∧ m ds Kd Xd n
  | _ => fun _ => Wm.fail
/-- it stands where it may be called -/
def CallOk (K : PySem.W.Frag) (f : Addr) (H : Hp) : Prop := PySem.W.keepIn K (.ref f) = true ∨ ∃ r : CloR, H f = some (FixO f r.obj)
section
variable {ι : Type} {X : ι → Cx} {W : WX} {P : Program} {w : World} {K : PySem.W.Frag} {mg : Str → Option Value} {base : Heap}
theorem DE.actN {x : Str} {i k : Nat} {p1 p2 : Pos} {e : Expr} {es : List Expr} {t : TD (List D)} (hP : ∀ j, (X j).prog = P ∧ (X j).w = w ∧ (X j).K = K ∧ (X j).mg = mg ∧ (X j).base = base) (hgd : ∀ j, (X j).A.guards = some []) (hr : ∀ j, Room k (X j).A) (tk : ∀ j, Takes (X j) W) (hv : ∀ j, PE (X j) (.Name x p1) (tVar i)) (h : DA X W (e :: es) t)
    (he : plainE e = true := by rfl) (hpl : ∀ j, (backTo p2 (starEach es (X j).env)).any (·.1) = false := by intro _; rfl) :
    DE X W (.Call (.Name x p1) (e :: es) [] p2) (fun ρ => do let d ← getD i ρ; Wm.need (keepD K d); let ds ← t ρ; actW P w K mg base k d ds) := by
  obtain ⟨ta, pa, ra⟩ := h
  refine ⟨fun σ H Q => ∃ f : Addr, σ[i]? = some (some (.ref f)) ∧ CallOk K f H ∧ ta σ H fun vs H1 => (∀ r : CloR, H f = some (FixO f r.obj) → H1 f = some (FixO f r.obj)) ∧ ∀ (A : Around) (outer : List Env) (s : Shared) (us : List Value), A.guards = some [] → Room k A → Env0 P w K mg base A outer s H1 → Vals vs us → codeAny (model P w) A (.call (.ref f) ⟨us, []⟩) (CR (L2.CX P w) outer P w H1 s Q (WE W σ)) s, fun j => ⟨fun pins s σ H Q I h => ?_⟩, fun F H n σ ρ Kd Kx Q hs ht hq hx => ?_⟩
  · obtain ⟨f, h0, hok, hc⟩ := h
    obtain ⟨eP, ew, eK, em, eb⟩ := hP j
    subst eP ew eK em eb
    refine wpAny_Call_Name_kw (thn ((hv j).run pins s σ H (fun v H1 => v = .ref f ∧ H1 = H) I ⟨.ref f, h0, rfl, rfl⟩) fun u s1 ⟨v, H1, I1, r1, q1⟩ => ?_)
    obtain ⟨ev, eH⟩ := q1
    subst ev
    rw [eH] at I1
    obtain rfl : u = Value.ref f := r1
    have fin : ∀ {us : List Value} {s2 : Shared} {vs : List V} {H2 : Hp}, Inv (X j) pins σ H2 s2 → Vals vs us → (∀ (A : Around) (outer : List Env) (s : Shared) (us : List Value), A.guards = some [] → Room k A → Env0 (X j).prog (X j).w (X j).K (X j).mg (X j).base A outer s H2 → Vals vs us → codeAny (model (X j).prog (X j).w) A (.call (.ref f) ⟨us, []⟩) (CR (L2.CX (X j).prog (X j).w) outer (X j).prog (X j).w H2 s Q (WE W σ)) s) →
        wpAny (model (X j).prog (X j).w) (X j).A (PySem.call (.ref f) us) (EP (X j) pins σ Q) (X j).xe s2 := fun {us s2 vs H2} I2 r q => by
      refine wpAny_call (codeAny_mono (q (X j).A (X j).stack s2 us (hgd j) (hr j) I2.env0 r) fun res s' hq => ?_)
      match res, hq with
      | .error er, hq => exact passAt (tk j) σ pins H2 s2 er s' I2 hq
      | .ok (.ret u), hq => exact I2.after hq
    rcases hok with hk | ⟨r, hf⟩
    · refine PySem.W.callWith_K (h₀ := (X j).base) I1.ok.mod.kin hk (thn ((pa j).run p2 pins s1 σ H _ I1 hc) ?_) (star_plain he) (hpl j)
      rintro us s2 ⟨vs, H2, I2, r, hok2, q⟩
      exact ⟨I2.kIn, fin I2 r q⟩
    · refine PySem.W.callWith_F ⟨_, _, _, _, fixO_at I1.hok hf⟩ (thn ((pa j).run p2 pins s1 σ H _ I1 hc) ?_) (star_plain he) (hpl j)
      rintro us s2 ⟨vs, H2, I2, r2, hok2, q⟩
      exact ⟨⟨_, _, _, _, fixO_at I2.hok (hok2 r hf)⟩, fin I2 r2 q⟩
  · obtain ⟨d, e1, ht1⟩ := getD_run (show getD i ρ (fun d n' => (do Wm.need (keepD K d); let ds ← t ρ; actW P w K mg base k d ds : Wm D) Kd Kx n') Kx n from ht)
    obtain ⟨hkeep, ht2⟩ := ht1
    obtain ⟨v, e2, hv'⟩ := hs.at_ _ _ e1
    have hv' : Has F H v d := hv'
    cases d with
    | fnA a =>
      cases hv'
      refine ⟨a, e2, .inl hkeep, ra F H n σ ρ _ Kx _ hs ht2 (fun vs ds F1 H1 n1 g1 hvs ht3 => ⟨fun r e => g1.keepL e .ext, fun A outer s us hg hr e0 rv => ?_⟩) hx⟩
      obtain ⟨fd, ps, w', G, B, hw⟩ := ht3
      have hsp : spD ds.length w' vs H1 Q (WE W σ) := ⟨hvs.len, F1, n1, ds, Kd, Kx, g1.pb, hvs, hw, fun v d F2 H2 n2 g2 => hq v d F2 H2 n2 (g1.trans g2), fun cls od xd F' H' n' g => hx cls od xd F' H' n' (g1.trans g)⟩
      have hl : us.length = ps.length := by rw [← rv.length]; exact G.len _ _ _ _ hsp
      have bt := B s us (e0.mod.kin.keeps fun b o e => (e0.bs b o e).1) (by rw [List.append_nil]; exact hl)
      rw [List.append_nil] at bt
      exact G.run A outer s H1 ⟨us, []⟩ us vs Q _ hg hr e0 bt rv hsp
    | clo b r cs =>
      obtain ⟨f, rfl, hf, hco⟩ : ∃ f : Addr, v = .ref f ∧ H f = some (FixO f r.obj) ∧ H r.code = some (CodO r.code r.qual) := by
        cases hv' with
        | clo0 _ h1 _ h2 => exact ⟨_, rfl, h1, h2⟩
        | clo1 _ h1 _ h2 _ _ _ => exact ⟨_, rfl, h1, h2⟩
      refine ⟨f, e2, .inr ⟨r, hf⟩, ra F H n σ ρ _ Kx _ hs ht2 (fun vs ds F1 H1 n1 g1 hvs ht3 => ⟨fun r e => g1.keepL e .ext, fun A outer s us hg hr e0 rv => ?_⟩) hx⟩
      obtain ⟨m, sp, hm⟩ := ht3
      exact sp A outer s H1 F1 n1 f us vs ds Kd Kx Q _ hg hr e0 g1.pb (g1.keepL hf .ext) (g1.keepL hco .ext) rv hvs hm (fun v d F2 H2 n2 g2 => hq v d F2 H2 n2 (g1.trans g2)) (fun cls od xd F' H' n' g => hx cls od xd F' H' n' (g1.trans g))
    | _ => exact hkeep.elim
end
theorem clo_okB {P : Program} {w : World} {K : PySem.W.Frag} {mg : Str → Option Value} {base : Heap} {N : List Str} {r : CloR} {k : Nat} {ds : List D} {t : TD D} (S : CloScope N r) (hp : ds.all bareB = true)
    (hbody : ∀ (A : Around) (outer : List Env) (s : Shared) (H : Hp) (E : XK) (f : Addr), A.guards = some [] → Room k (A.deeper (cloEnv r s.heap.objs.size f)) → DE (fun _ : Unit => cloCx P w K mg base N r A outer s H E f) (bW E) r.body t) :
    CloSp P w K mg base (k + 1) r ds (t (ds.map fun d => some (.d d))) := by
  intro A outer s H F n f Kd Xd Q E hg hr e0 pb hf hm hq hx
  cases hf with
  | @clo1 _ _ vs _ Ff hf Fc hco hl hs hds =>
  -- the cells, cut out
  obtain ⟨l, hll⟩ : ∃ l, l = r.cl.map (·.2) := ⟨_, rfl⟩
  have inl : ∀ c ∈ l, ∃ p ∈ r.cl.zip vs, p.1.2 = c := fun c hc => by
    rw [hll] at hc
    obtain ⟨p, hp, e⟩ := List.mem_map.mp hc
    obtain ⟨i, hi, e2⟩ := List.mem_iff_getElem.mp hp
    have hv : vs[i]? = some vs[i] := List.getElem?_eq_getElem (by omega)
    exact ⟨(p, vs[i]), List.mem_of_getElem? (i := i) (by rw [List.getElem?_zip_eq_some]; exact ⟨by rw [List.getElem?_eq_getElem hi, e2], hv⟩), e⟩
  have hcell : ∀ c ∈ l, F c ∧ ∃ o u, H c = some (FixO c o) ∧ o.data = .cell (some u) := fun c hc => by
    obtain ⟨p, hp, rfl⟩ := inl c hc
    obtain ⟨a, u, o, _, dd, e⟩ := hs p hp
    exact ⟨a, o, u, e, dd⟩
  have fx : Fixed l H := fun c hc => let ⟨_, o, _, e, _⟩ := hcell c hc; ⟨o, e⟩
  have hF : ∀ c ∈ l, F c := fun c hc => (hcell c hc).1
  have hfr : ∀ c ∈ l, c ∉ frs outer := fun c hc z => by
    obtain ⟨o, e⟩ := fx c hc
    rw [e0.frf c z] at e
    cases e
  have hnb : ∀ c ∈ l, base.get? c = none := fun c hc => by
    cases q : base.get? c with
    | none => rfl
    | some o =>
      obtain ⟨o2, e⟩ := fx c hc
      rw [(e0.bs c o q).2] at e
      cases e
  have e1 : Env0 P w K mg base A outer s (cut l H) := ⟨e0.frames, e0.mod, fun b o e => ⟨(e0.bs b o e).1, by
    by_cases hb : b ∈ l
    · exact cut_in hb
    · rw [cut_out hb]; exact (e0.bs b o e).2⟩, e0.bsz, e0.funs, fun b hb => by
    by_cases hbl : b ∈ l
    · exact cut_in hbl
    · rw [cut_out hbl]; exact e0.frf b hb, hok_cut fx e0.hok, e0.bare⟩
  have hof : s.heap.get? f = some r.obj := fixO_at e0.hok hf
  have hcode : s.heap.CodeRec (.ref r.code) r.qual := by
    have x : ObjOk P w H s.heap r.code (.ext fun h => ∃ (oc : Obj) (vs : Array Value) (t : Tok), h.get? r.code = some oc ∧ oc.data = .fields vs ∧ vs[1]? = some (.str r.qual t)) := e0.hok _ _ hco
    obtain ⟨⟨oc, vs, t, a, b, c⟩, _⟩ := x
    exact ⟨r.code, oc, vs, t, rfl, a, b, c⟩
  refine PySem.W.kla_callFunE hr.depth hof rfl S.co S.gen rfl hcode ?_
  rw [S.bind]
  refine wpAny_pure (wpAny_newFunctionEnv (fun y hy => (S.own y hy).2) (fun y hy => absurd hy (by simp)) (fun h₁ hns hsb => ⟨(e0.mod.nolimit.keeps fun b o e => (e0.bs b o e).1).fresh _ hsb, ?_⟩) S.kind)
  show codeAny _ _ (.expr r.body (cloEnv r s.heap.objs.size f)) _ _
  have kp : ∀ b o, s.heap.get? b = some o → h₁.get? b = some o := fun b o e => hsb.extBut b o (Nat.ne_of_lt (Heap.lt_size e)) (Heap.get?_push_of_some _ e)
  let E' : XK := fun cls od H' => ∃ xd F' n', Grow (cutF l F) (cut l H) n F' H' n' ∧ HasX F' H' cls od xd ∧ Xd xd n'
  have J : Inv (cloCx P w K mg base N r A outer s (cut l H) E' f) [] (vs.map some) (cut l H) { s with heap := h₁, toks := s.toks + ([] : List (Str × Value)).length } :=
    clo_start S e1 hr.hd hl (fun p hp => let ⟨_, u, o, ru, dd, e⟩ := hs p hp; ⟨u, o, ru, dd, fixO_at e0.hok e, cut_in (by rw [hll]; exact List.mem_map.mpr ⟨p.1, (List.of_mem_zip hp).1, rfl⟩)⟩) hns kp
  obtain ⟨te, pe, re⟩ := hbody A outer s (cut l H) E' f hg (hr.deeper _)
  have hps : HasS (cutF l F) (cut l H) n (vs.map some) (ds.map fun d => some (.d d)) := ⟨pb.cut e0.hok (fun c hc => (hcell c hc).2), by rw [List.length_map, List.length_map, hds.len], fun i x e => by
    rw [List.getElem?_map] at e
    obtain ⟨d, e1, e2⟩ := Option.map_eq_some_iff.mp e
    cases e2
    obtain ⟨v, e3, hv⟩ := (hds.cutB fx e0.hok (fun c hc => (hcell c hc).2) hp).get e1
    exact ⟨v, by rw [List.getElem?_map, e3]; rfl, hv⟩⟩
  have ht : te (vs.map some) (cut l H) (fun v H' => ∃ d F' n', Grow (cutF l F) (cut l H) n F' H' n' ∧ Has F' H' v d ∧ Kd d n') := re _ _ n _ _ Kd Xd _ hps hm (fun v d F' H' n' g hv hk => ⟨d, F', n', g, hv, hk⟩) fun cls od xd F' H' n' g hx' hk => ⟨xd, F', n', g, hx', hk⟩
  have fin : ∀ {er : Value} {s' : Shared}, L2.CX P w outer (cut l H) s E' er s' → L2.CX P w outer H s E er s' := fun {er s'} z => by
    obtain ⟨a, B, H', cls, d, ea, fl, hokB, ub, na, os, ag, xd, F', n', g, hx', hk⟩ := z
    obtain ⟨ub2, hok2, hn, hB⟩ := ub_lay fx e0.hok hfr ub hokB
    have hal : a ∉ l := fun z => by
      obtain ⟨o, e⟩ := hB a z
      rw [fl.2.1] at e
      cases e
    refine ⟨a, B, lay l H H', cls, d, ea, fl, hok2, ub2, by rw [lay_out hal]; exact na, os, ag, ?_⟩
    exact hx cls d xd _ _ n' (g.lay fx hF hn) (hx'.later (later_lay (n := n') hn) fun a fs e => by rw [lay_out (fun z => by rw [hn a z] at e; cases e)]; exact e) hk
  refine PySem.W.kla_codeExpr (wpAny_mono ((pe ()).run [] _ _ (cut l H) _ J ht) (fun v s' hq' => ?_) fun e s' z => wpAny_mono (show wpAny _ _ _ _ _ _ from z) (fun _ s'' z => fin z) fun _ s'' z => fin z)
  obtain ⟨v', H', J', rv, d, F', n', g, hv, hk⟩ := hq'
  obtain ⟨un2, hok2, hn⟩ := un_lay fx e0.hok hfr J'.base J'.hok
  exact ⟨v', lay l H H', J'.os, J'.bare, un2, hok2, rv, hq v' d _ _ n' (g.lay fx hF hn) (hv.later (later_lay (n := n') hn)) hk⟩
/-- by data -/
def tellWB (w : List D → Wm D) (cells : List (Str × Addr)) (caps : List Str) (idx : Str → Nat) (ds : List D) : TD D := fun ρ Kd _ n => ∃ cap : Str → D, (∀ y ∈ caps, ρ[idx y]? = some (some (.d (cap y))) ∧ bareB (cap y) = true) ∧
  tellOkL (fun r => ∀ p ∈ r.cl, p.1 ∈ caps ∧ cells.lookup p.1 = some p.2) ds ∧ w (tellL cap ds) (fun d n' => plainD d = true ∧ Kd d n') XFalse n
section
variable {ι : Type} {X : ι → Cx} {W : WX}
theorem DE.tellB {x : Str} {p pos : Pos} {e : Expr} {es : List Expr} {t : TD (List D)} {k f fd} {ps : List Str} {w : List D → Wm D} {m : Nat} {cells : List (Str × Addr)} {caps : List Str} {idx : Str → Nat} (hcl : ∀ i, (X i).env.cells = cells) (F : ∀ i, FnG (X i).prog (X i).w (X i).K (X i).mg (X i).base k f fd ps (spD m w)) (hgd : ∀ i, (X i).A.guards = some []) (hr : ∀ i, Room k (X i).A)
    (hg : ∀ i, Gl (X i) x) (hm : ∀ i, (X i).mg x = some (.ref f)) (hk : ∀ i, PySem.W.keepIn (X i).K (.ref f) = true) (hb : ∀ i, Binds (X i).K fd ps []) (hfn : ∀ i, ∀ y ∈ caps, (X i).fn y = true) (hcap : ∀ i, ∀ y ∈ caps, (X i).env.scope.names.lookup y = some .cell ∧ (X i).N[idx y]? = some y)
    (h : DA X W (e :: es) t) (hdb : (x == ("__debug__" : Str)) = false := by decide)
    (he : ∀ i, starEach (e :: es) (X i).env = (false, eval e (X i).env) :: starEach es (X i).env := by intro _; rfl) (hpl : ∀ i, (backTo pos (starEach es (X i).env)).any (·.1) = false := by intro _; rfl) :
    DE X W (.Call (.Name x p) (e :: es) [] pos) (fun ρ => do let ds ← t ρ; Wm.need (ds.length = m); tellWB w cells caps idx ds ρ) := by
  obtain ⟨ta, p1, r1⟩ := h
  refine ⟨tTell (spD m w) cells caps idx ta, fun i => by rw [← hcl i]; exact pe_tell (F i) (hgd i) (hr i) (hg i) (hm i) (hk i) (hb i) (hfn i) (hcap i) (p1 i) hdb (he i) (hpl i), fun F H n σ ρ K Kx Q hs ht hq hx => ?_⟩
  refine r1 F H n σ ρ _ Kx _ hs ht (fun vs ds F1 H1 n1 g1 hv ht1 => ?_) hx
  obtain ⟨hlen, cap, hcap', hok, hw⟩ := ht1
  have hs1 := hs.mono g1
  refine ⟨fun y hy => let ⟨v, e, _⟩ := hs1.at_ _ _ (hcap' y hy).1; ⟨v, e⟩, fun f fx hn hcell => ?_⟩
  obtain ⟨l, hl⟩ : ∃ l, l = caps.filterMap (fun y => cells.lookup y) := ⟨_, rfl⟩
  rw [← hl] at fx hn ⊢
  have hn1 : ∀ c ∈ l, H1 c = none := fun c hc => (hn c hc).1
  have told : tellOkL (fun r => ∀ p ∈ r.cl, Told l F1 H1 f cap p) ds := tellOkL.imp (fun r hr p hp => by
    obtain ⟨h1, h2⟩ := hr p hp
    obtain ⟨c, v, u, o, e1, e2, ru, dd, e3⟩ := hcell _ h1
    rw [h2] at e1
    cases e1
    obtain ⟨v', e4, hv'⟩ := hs1.at_ _ _ (hcap' _ h1).1
    rw [e2] at e4
    cases e4
    exact ⟨by rw [hl]; exact List.mem_filterMap.mpr ⟨_, h1, h2⟩, v, u, o, ru, dd, e3, Has.layB hn1 hv' (hcap' _ h1).2⟩) hok
  refine ⟨by rw [hv.len]; exact hlen, layF l F1, n1, tellL cap ds, _, XFalse, g1.pb.lay fx hn1, hv.tell hn1 told, hw, fun v d F' H' n' g hv' hk' => ?_, fun _ _ _ _ _ _ _ _ z => z⟩
  obtain ⟨g2, hkeep⟩ := g.cut g1.pb hn1 fx fun c hc => (hn c hc).2
  have fx' : Fixed l H' := fun c hc => by rw [hkeep c hc]; exact fx c hc
  exact ⟨hkeep, hq v d _ _ n' (g1.trans g2) (hv'.cut fx' hk'.1) hk'.2⟩
end

def forBody : Stmt → List Stmt
  | .For _ _ b _ _ => b
  | _ => []
def lamOfIter : Stmt → Expr
  | .For _ (.Tuple (_ :: e :: _) _ _) _ _ _ => e
  | _ => .Tuple [] 0 ⟨0, 0, 0, 0⟩
end DL


set_option maxRecDepth 100000
set_option maxHeartbeats 2000000
/-! M21: numbers with roots, the plain law. Own work. -/
namespace M21
open PySem L2 DL
/-- numbers of l roots -/
def T : Nat → Type
  | 0 => Int
  | l + 1 => T l × T l
/-- the roots -/
def Rt : Nat → Type
  | 0 => Unit
  | l + 1 => Rt l × T l
def dT : (l : Nat) → T l → D
  | 0, i => .int i
  | l + 1, x => .tup [dT l x.1, dT l x.2]
def zT : (l : Nat) → T l
  | 0 => (0 : Int)
  | l + 1 => (zT l, zT l)
/-- a plain number -/
def pT : (l : Nat) → Int → T l
  | 0, i => i
  | l + 1, i => (pT l i, zT l)
def addT : (l : Nat) → T l → T l → T l
  | 0, x, y => ((show Int from x) + (show Int from y) : Int)
  | l + 1, x, y => (addT l x.1 y.1, addT l x.2 y.2)
def mapT (f : Int → Int) : (l : Nat) → T l → T l
  | 0, x => f x
  | l + 1, x => (mapT f l x.1, mapT f l x.2)
def mulT : (l : Nat) → Rt l → T l → T l → T l
  | 0, _, x, y => ((show Int from x) * (show Int from y) : Int)
  | l + 1, r, x, y => (addT l (mulT l r.1 x.1 y.1) (mulT l r.1 (mulT l r.1 x.2 y.2) r.2), addT l (mulT l r.1 x.1 y.2) (mulT l r.1 x.2 y.1))
def rL : (l : Nat) → Rt l → List D
  | 0, _ => []
  | l + 1, r => rL l r.1 ++ [dT l r.2]
theorem rL_succ {l : Nat} {r : Rt (l + 1)} : rL (l + 1) r = rL l r.1 ++ [dT l r.2] := rfl
theorem rL_len : ∀ (l : Nat) (r : Rt l), (rL l r).length = l
  | 0, _ => rfl
  | l + 1, r => by unfold rL; rw [List.length_append, rL_len l r.1]; rfl
def flT : (l : Nat) → T l → List Int
  | 0, x => [x]
  | l + 1, x => flT l x.1 ++ flT l x.2
theorem flT_len : ∀ (l : Nat) (x : T l), (flT l x).length = 2 ^ l
  | 0, _ => rfl
  | l + 1, x => by unfold flT; rw [List.length_append, flT_len l, flT_len l, Nat.pow_succ]; omega
theorem flT_inj : ∀ (l : Nat) (x y : T l), flT l x = flT l y → x = y
  | 0, x, y, h => by unfold flT at h; exact List.cons.inj h |>.1
  | l + 1, x, y, h => by
    unfold flT at h
    obtain ⟨h1, h2⟩ := List.append_inj h (by rw [flT_len, flT_len])
    exact Prod.ext (flT_inj l _ _ h1) (flT_inj l _ _ h2)
theorem flT_add : ∀ (l : Nat) (x y : T l), ((flT l x).zip (flT l y)).map (fun p => p.1 + p.2) = flT l (addT l x y)
  | 0, x, y => rfl
  | l + 1, x, y => by
    unfold flT addT
    rw [List.zip_append (by rw [flT_len, flT_len]), List.map_append, flT_add l, flT_add l]
theorem flT_map (f : Int → Int) : ∀ (l : Nat) (x : T l), (flT l x).map f = flT l (mapT f l x)
  | 0, x => rfl
  | l + 1, x => by
    unfold flT mapT
    rw [List.map_append, flT_map f l, flT_map f l]
theorem flT_zero : ∀ (l : Nat), flT l (zT l) = List.replicate (2 ^ l) 0
  | 0 => rfl
  | l + 1 => by
    unfold flT zT
    rw [flT_zero l, List.replicate_append_replicate, Nat.pow_succ]
    congr 1
    omega
theorem flT_plain : ∀ (l : Nat) (i : Int), flT l (pT l i) = i :: List.replicate (2 ^ l - 1) 0
  | 0, i => rfl
  | l + 1, i => by
    unfold flT pT
    have h := Nat.two_pow_pos l
    rw [flT_plain l, flT_zero l, List.cons_append, List.replicate_append_replicate, Nat.pow_succ]
    congr 2
    omega
def zB : (l : Nat) → T l → Bool
  | 0, x => decide ((show Int from x) = 0)
  | l + 1, x => zB l x.1 && zB l x.2
theorem flT_zB : ∀ (l : Nat) (x : T l), (flT l x).all (fun i => decide (i = 0)) = zB l x
  | 0, x => by
    show (decide ((show Int from x) = 0) && true) = decide ((show Int from x) = 0)
    rw [Bool.and_true]
  | l + 1, x => by unfold flT zB; rw [List.all_append, flT_zB l, flT_zB l]
theorem zB_iff : ∀ (l : Nat) (x : T l), zB l x = true ↔ x = zT l
  | 0, x => by unfold zB zT; exact decide_eq_true_iff
  | l + 1, x => by
    unfold zB zT
    rw [Bool.and_eq_true, zB_iff l, zB_iff l]
    constructor
    · intro h; exact Prod.ext h.1 h.2
    · intro h; rw [h]; exact ⟨rfl, rfl⟩
theorem dT_succ {l : Nat} {x : T (l + 1)} : dT (l + 1) x = .tup [dT l x.1, dT l x.2] := rfl
theorem pT_zero : ∀ l : Nat, pT l 0 = zT l
  | 0 => rfl
  | l + 1 => Prod.ext (pT_zero l) rfl
/-- one's two parts -/
def prs {l : Nat} (xs : List (T (l + 1))) : List (T l) := xs.flatMap fun p => [p.1, p.2]
theorem prs_cons {l : Nat} {x : T (l + 1)} {xs : List (T (l + 1))} : prs (x :: xs) = x.1 :: x.2 :: prs xs := rfl
theorem prs_flat {l : Nat} : ∀ xs : List (T (l + 1)), (prs xs).flatMap (flT l) = xs.flatMap (flT (l + 1))
  | [] => rfl
  | x :: xs => by
    rw [prs_cons, List.flatMap_cons, List.flatMap_cons, prs_flat xs, List.flatMap_cons]
    show _ = flT l x.1 ++ flT l x.2 ++ _
    rw [List.append_assoc]
theorem prs_len {l : Nat} : ∀ xs : List (T (l + 1)), (prs xs).length = 2 * xs.length
  | [] => rfl
  | x :: xs => by rw [prs_cons, List.length_cons, List.length_cons, List.length_cons, prs_len xs]; omega
theorem prs_of {l : Nat} : ∀ (m : Nat) (xs : List (T l)), xs.length = 2 * m → ∃ ps : List (T (l + 1)), prs ps = xs ∧ ps.length = m
  | 0, [], _ => ⟨[], rfl, rfl⟩
  | 0, _ :: _, h => by simp at h
  | m + 1, [], h => by
    have h : 0 = 2 * (m + 1) := h
    omega
  | m + 1, [x], h => by
    have h : 1 = 2 * (m + 1) := h
    omega
  | m + 1, x :: y :: xs, h => by
    obtain ⟨ps, h1, h2⟩ := prs_of m xs (by simp at h; omega)
    exact ⟨(show T (l + 1) from (x, y)) :: ps, congrArg (fun r => x :: y :: r) h1, congrArg (· + 1) h2⟩
theorem prs_get {l : Nat} : ∀ (ps : List (T (l + 1))) (j : Nat) (p : T (l + 1)), ps[j]? = some p → (prs ps)[2 * j]? = some p.1 ∧ (prs ps)[2 * j + 1]? = some p.2
  | [], j, p, h => by simp at h
  | x :: xs, 0, p, h => by
    rw [List.getElem?_cons_zero] at h
    cases h
    exact ⟨rfl, rfl⟩
  | x :: xs, j + 1, p, h => by
    rw [List.getElem?_cons_succ] at h
    obtain ⟨h1, h2⟩ := prs_get xs j p h
    rw [prs_cons, show 2 * (j + 1) = 2 * j + 1 + 1 by omega, List.getElem?_cons_succ, List.getElem?_cons_succ, List.getElem?_cons_succ, List.getElem?_cons_succ]
    exact ⟨h1, h2⟩
theorem flat_zero : ∀ xs : List (T 0), (xs.flatMap (flT 0)).map D.int = xs.map (dT 0)
  | [] => rfl
  | x :: xs => by
    rw [List.flatMap_cons, List.map_append, flat_zero xs]
    rfl
/-! ### bounds -/
def Bd : (l : Nat) → Nat → T l → Prop
  | 0, p, x => (show Int from x).natAbs < 2 ^ p
  | l + 1, p, x => Bd l p x.1 ∧ Bd l p x.2
theorem Bd.mono : ∀ {l p q : Nat} {x : T l}, Bd l p x → p ≤ q → Bd l q x
  | 0, p, q, x, h, hp => Nat.lt_of_lt_of_le h (Nat.pow_le_pow_right (by decide) hp)
  | l + 1, p, q, x, h, hp => ⟨Bd.mono (l := l) h.1 hp, Bd.mono (l := l) h.2 hp⟩
theorem Bd.zero : ∀ {l p : Nat}, Bd l p (zT l)
  | 0, p => Nat.two_pow_pos p
  | l + 1, p => ⟨Bd.zero, Bd.zero⟩
theorem Bd.plain : ∀ {l p : Nat} {i : Int}, i.natAbs < 2 ^ p → Bd l p (pT l i)
  | 0, p, i, h => h
  | l + 1, p, i, h => ⟨Bd.plain h, Bd.zero⟩
theorem Bd.add : ∀ {l p : Nat} {x y : T l}, Bd l p x → Bd l p y → Bd l (p + 1) (addT l x y)
  | 0, p, x, y, h1, h2 => by
    have h1 : (show Int from x).natAbs < 2 ^ p := h1
    have h2 : (show Int from y).natAbs < 2 ^ p := h2
    show ((show Int from x) + (show Int from y)).natAbs < 2 ^ (p + 1)
    rw [Nat.pow_succ]
    omega
  | l + 1, p, x, y, h1, h2 => ⟨Bd.add h1.1 h2.1, Bd.add h1.2 h2.2⟩
theorem Bd.map {f : Int → Int} {p q : Nat} (hf : ∀ i : Int, i.natAbs < 2 ^ p → (f i).natAbs < 2 ^ q) : ∀ {l : Nat} {x : T l}, Bd l p x → Bd l q (mapT f l x)
  | 0, x, h => hf _ h
  | l + 1, x, h => ⟨Bd.map hf h.1, Bd.map hf h.2⟩
theorem Bd.all : ∀ {l p : Nat} {x : T l}, Bd l p x → ∀ i ∈ flT l x, i.natAbs < 2 ^ p
  | 0, p, x, h, i, hi => by
    have e : i = (show Int from x) := List.mem_singleton.mp hi
    rw [e]
    exact h
  | l + 1, p, x, h, i, hi => by
    unfold flT at hi
    rcases List.mem_append.mp hi with hi | hi
    · exact Bd.all h.1 i hi
    · exact Bd.all h.2 i hi
/-- what a product's entries grow by -/
def cc : Nat → Nat
  | 0 => 0
  | l + 1 => 2 * cc l + 4
/-- the roots' entries are small -/
def RB : (l : Nat) → Rt l → Prop
  | 0, _ => True
  | l + 1, r => RB l r.1 ∧ Bd l 3 r.2
theorem Bd.mul : ∀ {l p q : Nat} {r : Rt l} {x y : T l}, RB l r → Bd l p x → Bd l q y → Bd l (p + q + cc l) (mulT l r x y)
  | 0, p, q, r, x, y, _, h1, h2 => by
    show ((show Int from x) * (show Int from y)).natAbs < 2 ^ (p + q)
    exact wide_lt h1 h2
  | l + 1, p, q, r, x, y, hr, h1, h2 => by
    unfold cc
    have a := Bd.mul hr.1 h1.1 h2.1
    have b := Bd.mul hr.1 (Bd.mul hr.1 h1.2 h2.2) hr.2
    have c := Bd.mul hr.1 h1.1 h2.2
    have d := Bd.mul hr.1 h1.2 h2.1
    refine ⟨?_, ?_⟩
    · exact ((a.mono (q := p + q + cc l + 3 + cc l) (by omega)).add b).mono (by omega)
    · exact (c.add d).mono (by omega)
/-! ### the whole root -/
def bis : Nat → Int → Int → Int → Int
  | 0, _, low, _ => low
  | k + 1, n, low, high => if 1 < high - low then (if (low + high).fdiv 2 * (low + high).fdiv 2 ≤ n then bis k n ((low + high).fdiv 2) high else bis k n low ((low + high).fdiv 2)) else low
def rootO (n : Int) : Option Int := if n < 0 then none else if bis (n.toNat + 1) n 0 (n + 1) * bis (n.toNat + 1) n 0 (n + 1) = n then some (bis (n.toNat + 1) n 0 (n + 1)) else none
theorem bis_le : ∀ (k : Nat) (n low high : Int), 0 ≤ low → low ≤ high → 0 ≤ bis k n low high ∧ bis k n low high ≤ high
  | 0, n, low, high, h1, h2 => ⟨h1, h2⟩
  | k + 1, n, low, high, h1, h2 => by
    unfold bis
    have e : (low + high).fdiv 2 = (low + high) / 2 := Int.fdiv_eq_ediv_of_nonneg _ (by decide)
    rw [e]
    split
    · split
      · exact bis_le k n _ _ (by omega) (by omega)
      · have := bis_le k n low ((low + high) / 2) h1 (by omega)
        exact ⟨this.1, by omega⟩
    · exact ⟨h1, h2⟩
theorem rootO_bd {n i : Int} {p : Nat} (h : rootO n = some i) (hn : n.natAbs < 2 ^ p) : i.natAbs < 2 ^ (p + 1) := by
  unfold rootO at h
  by_cases h0 : n < 0
  · rw [if_pos h0] at h; cases h
  · rw [if_neg h0] at h
    split at h
    · cases h
      have := bis_le (n.toNat + 1) n 0 (n + 1) (by decide) (by omega)
      rw [Nat.pow_succ]
      omega
    · cases h
/-! ### roots of numbers with roots -/
abbrev OT (l : Nat) := Option (T l × T l)
def sg (l : Nat) (s : Int) (x : T l) : T l := mapT (fun i => s * i) l x
def subT (l : Nat) (x y : T l) : T l := addT l x (sg l (-1) y)
def flatR (f : (l : Nat) → Rt l → T l → OT l) (l : Nat) (r : Rt (l + 1)) (a : T l) : OT (l + 1) :=
  match f l r.1 a with
  | some g => some ((g.1, zT l), (g.2, zT l))
  | none => match f l r.1 (mulT l r.1 a r.2) with
    | none => none
    | some g => some ((zT l, g.1), (mulT l r.1 g.2 r.2, zT l))
def signR (f : (l : Nat) → Rt l → T l → OT l) (l : Nat) (r : Rt (l + 1)) (a b : T l) (m : T l × T l) (s : Int) : OT (l + 1) :=
  match f l r.1 (mulT l r.1 (addT l (mulT l r.1 a m.2) (sg l s m.1)) (sg l 2 m.2)) with
  | none => none
  | some g => if zB l g.1 = true then none else some ((sg l 2 (mulT l r.1 g.1 g.1), mulT l r.1 (mulT l r.1 (mulT l r.1 g.2 (sg l 2 m.2)) (mulT l r.1 g.2 (sg l 2 m.2))) b), (sg l 2 (mulT l r.1 g.1 (mulT l r.1 g.2 (sg l 2 m.2))), zT l))
def mixR (f : (l : Nat) → Rt l → T l → OT l) (l : Nat) (r : Rt (l + 1)) (a b : T l) : OT (l + 1) :=
  match f l r.1 (subT l (mulT l r.1 a a) (mulT l r.1 (mulT l r.1 b b) r.2)) with
  | none => none
  | some m => match signR f l r a b m 1 with
    | some g => some g
    | none => signR f l r a b m (-1)
def rootIn : (l : Nat) → Rt l → T l → OT l
  | 0, _, n => (rootO n).map fun i => (i, (1 : Int))
  | l + 1, r, x => if zB (l + 1) x = true then some (x, pT (l + 1) 1) else if zB l x.2 = true then
      (match rootIn l r.1 x.1 with
      | some g => some ((g.1, zT l), (g.2, zT l))
      | none => match rootIn l r.1 (mulT l r.1 x.1 r.2) with
        | none => none
        | some g => some ((zT l, g.1), (mulT l r.1 g.2 r.2, zT l)))
    else
      (match rootIn l r.1 (subT l (mulT l r.1 x.1 x.1) (mulT l r.1 (mulT l r.1 x.2 x.2) r.2)) with
      | none => none
      | some m => match (match rootIn l r.1 (mulT l r.1 (addT l (mulT l r.1 x.1 m.2) (sg l 1 m.1)) (sg l 2 m.2)) with
          | none => none
          | some g => if zB l g.1 = true then none else some ((sg l 2 (mulT l r.1 g.1 g.1), mulT l r.1 (mulT l r.1 (mulT l r.1 g.2 (sg l 2 m.2)) (mulT l r.1 g.2 (sg l 2 m.2))) x.2), (sg l 2 (mulT l r.1 g.1 (mulT l r.1 g.2 (sg l 2 m.2))), zT l)) : OT (l + 1)) with
        | some g => some g
        | none => match rootIn l r.1 (mulT l r.1 (addT l (mulT l r.1 x.1 m.2) (sg l (-1) m.1)) (sg l 2 m.2)) with
          | none => none
          | some g => if zB l g.1 = true then none else some ((sg l 2 (mulT l r.1 g.1 g.1), mulT l r.1 (mulT l r.1 (mulT l r.1 g.2 (sg l 2 m.2)) (mulT l r.1 g.2 (sg l 2 m.2))) x.2), (sg l 2 (mulT l r.1 g.1 (mulT l r.1 g.2 (sg l 2 m.2))), zT l)))
theorem rootIn_succ {l : Nat} {r : Rt (l + 1)} {x : T (l + 1)} : rootIn (l + 1) r x = if zB (l + 1) x = true then some (x, pT (l + 1) 1) else if zB l x.2 = true then flatR rootIn l r x.1 else mixR rootIn l r x.1 x.2 := rfl
/-- no root of an earlier one -/
def goodR : (l : Nat) → Rt l → Bool
  | 0, _ => true
  | l + 1, r => goodR l r.1 && (rootIn l r.1 r.2).isNone
/-- how great the entries may be -/
def capP : Nat → Nat
  | 0 => 20000
  | 1 => 2400
  | _ => 31
theorem cap_flat {l : Nat} {r : Rt (l + 1)} {a : T l} (hl : l ≤ 1) (hr : RB (l + 1) r) (h : Bd l (capP (l + 1)) a) : Bd l (capP l) a ∧ Bd l (capP l) (mulT l r.1 a r.2) := by
  have b := Bd.mul hr.1 h hr.2
  obtain rfl | rfl : l = 0 ∨ l = 1 := by omega
  · exact ⟨h.mono (by decide), b.mono (by decide)⟩
  · exact ⟨h.mono (by decide), b.mono (by decide)⟩
theorem cc_le {l : Nat} (h : l ≤ 1) : cc l ≤ 4 := by
  obtain rfl | rfl : l = 0 ∨ l = 1 := by omega
  · decide
  · decide
theorem capP_le {l : Nat} : capP (l + 1) ≤ 2400 := by
  cases l with
  | zero => decide
  | succ l => show 31 ≤ 2400; decide
theorem cap_small {l : Nat} (h : l ≤ 1) : capP (l + 1) + 3 + cc l ≤ 400000 := by
  have := cc_le h
  have := capP_le (l := l)
  omega
theorem Bd.sg2 {l p : Nat} {x : T l} {k : Int} (h : Bd l p x) (hk : k.natAbs ≤ 2) : Bd l (p + 1) (sg l k x) := Bd.map (fun i hi => by
  rw [Int.natAbs_mul, Nat.pow_succ]
  have : k.natAbs * i.natAbs ≤ 2 * i.natAbs := Nat.mul_le_mul_right _ hk
  omega) h
theorem Bd.sg1 {l p : Nat} {x : T l} {k : Int} (h : Bd l p x) (hk : k.natAbs ≤ 1) : Bd l p (sg l k x) := Bd.map (fun i hi => by
  rw [Int.natAbs_mul]
  have : k.natAbs * i.natAbs ≤ 1 * i.natAbs := Nat.mul_le_mul_right _ hk
  omega) h
theorem rootIn_bd0 {r : Rt 0} {x : T 0} {p : Nat} {g : T 0 × T 0} (hx : Bd 0 p x) (h : rootIn 0 r x = some g) : Bd 0 (p + 1) g.1 ∧ Bd 0 (p + 1) g.2 := by
  unfold rootIn at h
  obtain ⟨i, h1, rfl⟩ := Option.map_eq_some_iff.mp h
  refine ⟨rootO_bd h1 hx, ?_⟩
  show (1 : Int).natAbs < 2 ^ (p + 1)
  have := Nat.two_pow_pos p
  rw [Nat.pow_succ]
  show 1 < _
  omega
/-- what a root of level l + 1 is made of -/
theorem parts_bd {l : Nat} {r : Rt (l + 1)} {x : T (l + 1)} {g : T (l + 1) × T (l + 1)} {p c m t q : Nat} (hc : cc l ≤ c) (hr : RB (l + 1) r) (hx : Bd (l + 1) p x) (h : rootIn (l + 1) r x = some g)
    (H0 : ∀ y g, Bd l (p + 3 + c) y → rootIn l r.1 y = some g → Bd l m g.1 ∧ Bd l m g.2) (H1 : ∀ y g, Bd l (2 * p + 2 * c + 4) y → rootIn l r.1 y = some g → Bd l m g.1 ∧ Bd l m g.2) (H2 : ∀ y g, Bd l (p + 2 * m + 2 * c + 2) y → rootIn l r.1 y = some g → Bd l t g.1 ∧ Bd l t g.2)
    (e1 : m + 3 + c ≤ q) (e2 : p ≤ q) (e3 : 1 ≤ q) (e4 : 2 * (t + m + 1 + c) + 2 * c + p ≤ q) (e5 : 2 * t + c + 1 ≤ q) (e6 : 2 * t + m + 2 + 2 * c ≤ q) : Bd (l + 1) q g.1 ∧ Bd (l + 1) q g.2 := by
  rw [rootIn_succ] at h
  by_cases z : zB (l + 1) x = true
  · rw [if_pos z] at h
    cases h
    refine ⟨hx.mono e2, Bd.plain (show (1 : Int).natAbs < 2 ^ q from ?_)⟩
    have := Nat.pow_le_pow_right (n := 2) (by decide) e3
    show 1 < 2 ^ q
    omega
  · rw [if_neg z] at h
    by_cases z1 : zB l x.2 = true
    · rw [if_pos z1] at h
      unfold flatR at h
      cases q1 : rootIn l r.1 x.1 with
      | some y =>
        rw [q1] at h
        cases h
        have b := H0 _ _ (hx.1.mono (by omega)) q1
        exact ⟨⟨b.1.mono (by omega), Bd.zero⟩, ⟨b.2.mono (by omega), Bd.zero⟩⟩
      | none =>
        rw [q1] at h
        cases q2 : rootIn l r.1 (mulT l r.1 x.1 r.2) with
        | none => rw [q2] at h; cases h
        | some y =>
          rw [q2] at h
          cases h
          have b := H0 _ _ ((Bd.mul hr.1 hx.1 hr.2).mono (by omega)) q2
          exact ⟨⟨Bd.zero, b.1.mono (by omega)⟩, ⟨(Bd.mul hr.1 b.2 hr.2).mono (by omega), Bd.zero⟩⟩
    · rw [if_neg z1] at h
      unfold mixR at h
      cases q1 : rootIn l r.1 (subT l (mulT l r.1 x.1 x.1) (mulT l r.1 (mulT l r.1 x.2 x.2) r.2)) with
      | none => rw [q1] at h; cases h
      | some y =>
        rw [q1] at h
        have bb := Bd.mul hr.1 (Bd.mul hr.1 hx.2 hx.2) hr.2
        have ba := Bd.mul hr.1 hx.1 hx.1
        have bm := H1 _ _ ((Bd.add (ba.mono (q := 2 * p + 2 * c + 3) (by omega)) (Bd.sg1 (k := -1) (bb.mono (q := 2 * p + 2 * c + 3) (by omega)) (by decide))).mono (by omega)) q1
        have sgn : ∀ s : Int, s.natAbs ≤ 1 → ∀ g, signR rootIn l r x.1 x.2 y s = some g → Bd (l + 1) q g.1 ∧ Bd (l + 1) q g.2 := fun s hs g h => by
          unfold signR at h
          cases q2 : rootIn l r.1 (mulT l r.1 (addT l (mulT l r.1 x.1 y.2) (sg l s y.1)) (sg l 2 y.2)) with
          | none => rw [q2] at h; cases h
          | some v =>
            rw [q2] at h
            have h : (if zB l v.1 = true then none else some ((sg l 2 (mulT l r.1 v.1 v.1), mulT l r.1 (mulT l r.1 (mulT l r.1 v.2 (sg l 2 y.2)) (mulT l r.1 v.2 (sg l 2 y.2))) x.2), (sg l 2 (mulT l r.1 v.1 (mulT l r.1 v.2 (sg l 2 y.2))), zT l)) : OT (l + 1)) = some g := h
            have bot := Bd.sg2 (k := 2) bm.2 (by decide)
            have top := Bd.add ((Bd.mul hr.1 hx.1 bm.2).mono (q := p + m + c) (by omega)) ((Bd.sg1 bm.1 hs).mono (q := p + m + c) (by omega))
            have bv := H2 _ _ ((Bd.mul hr.1 top bot).mono (by omega)) q2
            split at h
            · cases h
            · cases h
              have bt := Bd.mul hr.1 bv.2 bot
              refine ⟨⟨?_, ?_⟩, ⟨?_, Bd.zero⟩⟩
              · exact (Bd.sg2 (k := 2) (Bd.mul hr.1 bv.1 bv.1) (by decide)).mono (by omega)
              · exact (Bd.mul hr.1 (Bd.mul hr.1 bt bt) hx.2).mono (by omega)
              · exact (Bd.sg2 (k := 2) (Bd.mul hr.1 bv.1 bt) (by decide)).mono (by omega)
        have h : (match signR rootIn l r x.1 x.2 y 1 with | some g => some g | none => signR rootIn l r x.1 x.2 y (-1)) = some g := h
        cases q2 : signR rootIn l r x.1 x.2 y 1 with
        | some v => rw [q2] at h; cases h; exact sgn 1 (by decide) _ q2
        | none => rw [q2] at h; exact sgn (-1) (by decide) _ h
theorem rootIn_bd1 {r : Rt 1} {x : T 1} {p : Nat} {g : T 1 × T 1} (hr : RB 1 r) (hx : Bd 1 p x) (h : rootIn 1 r x = some g) : Bd 1 (15 * p + 40) g.1 ∧ Bd 1 (15 * p + 40) g.2 :=
  parts_bd (l := 0) (c := 0) (m := 2 * p + 5) (t := 5 * p + 13) (by decide) hr hx h (fun y g hy e => let b := rootIn_bd0 (hy.mono (q := 2 * p + 4) (by omega)) e; b) (fun y g hy e => rootIn_bd0 hy e) (fun y g hy e => rootIn_bd0 (hy.mono (q := 5 * p + 12) (by omega)) e) (by omega) (by omega) (by omega) (by omega) (by omega) (by omega)
def mB : Nat → Nat
  | 0 => 4805
  | _ => 1150
def gB : Nat → Nat
  | 0 => 12013
  | _ => 35160
theorem gB_le {l : Nat} : mB l ≤ 4805 ∧ gB l ≤ 35160 := by
  cases l with
  | zero => decide
  | succ l => show 1150 ≤ 4805 ∧ 35160 ≤ 35160; decide
/-- the flat root's second quotient -/
theorem flat_bd {l : Nat} (hl : l ≤ 1) {r : Rt (l + 1)} {a : T l} {g : T l × T l} (hr : RB (l + 1) r) (h : Bd l (capP (l + 1)) a) (e : rootIn l r.1 (mulT l r.1 a r.2) = some g) : Bd l 40000 g.1 ∧ Bd l 40000 g.2 := by
  have b := Bd.mul hr.1 h hr.2
  obtain rfl | rfl : l = 0 ∨ l = 1 := by omega
  · have := rootIn_bd0 b e
    exact ⟨this.1.mono (by decide), this.2.mono (by decide)⟩
  · have := rootIn_bd1 hr.1 b e
    exact ⟨this.1.mono (by decide), this.2.mono (by decide)⟩
theorem mix_bd {l : Nat} (hl : l ≤ 1) {r : Rt (l + 1)} {a b : T l} (hr : RB (l + 1) r) (ha : Bd l (capP (l + 1)) a) (hb : Bd l (capP (l + 1)) b) : Bd l (capP l) (subT l (mulT l r.1 a a) (mulT l r.1 (mulT l r.1 b b) r.2)) ∧
    ∀ m, rootIn l r.1 (subT l (mulT l r.1 a a) (mulT l r.1 (mulT l r.1 b b) r.2)) = some m → Bd l (mB l) m.1 ∧ Bd l (mB l) m.2 ∧ ∀ s : Int, s.natAbs ≤ 1 → Bd l (capP l) (mulT l r.1 (addT l (mulT l r.1 a m.2) (sg l s m.1)) (sg l 2 m.2)) ∧
      ∀ g, rootIn l r.1 (mulT l r.1 (addT l (mulT l r.1 a m.2) (sg l s m.1)) (sg l 2 m.2)) = some g → Bd l (gB l) g.1 ∧ Bd l (gB l) g.2 := by
  have bb := Bd.mul hr.1 (Bd.mul hr.1 hb hb) hr.2
  have ba := Bd.mul hr.1 ha ha
  obtain rfl | rfl : l = 0 ∨ l = 1 := by omega
  · have b0 := Bd.add (ba.mono (q := 4803) (by decide)) (Bd.sg1 (k := -1) (bb.mono (q := 4803) (by decide)) (by decide))
    refine ⟨b0.mono (by decide), fun m e => ?_⟩
    have bm := rootIn_bd0 (b0.mono (q := 4804) (by decide)) e
    refine ⟨bm.1.mono (by decide), bm.2.mono (by decide), fun s hs => ?_⟩
    have top := Bd.add ((Bd.mul hr.1 ha bm.2).mono (q := 7205) (by decide)) ((Bd.sg1 bm.1 hs).mono (q := 7205) (by decide))
    have tb := Bd.mul hr.1 top (Bd.sg2 (k := 2) bm.2 (by decide))
    refine ⟨tb.mono (by decide), fun g e => ?_⟩
    have z := rootIn_bd0 (tb.mono (q := 12012) (by decide)) e
    exact ⟨z.1.mono (by decide), z.2.mono (by decide)⟩
  · have b0 := Bd.add (ba.mono (q := 73) (by decide)) (Bd.sg1 (k := -1) (bb.mono (q := 73) (by decide)) (by decide))
    refine ⟨b0.mono (by decide), fun m e => ?_⟩
    have bm := rootIn_bd1 hr.1 (b0.mono (q := 74) (by decide)) e
    refine ⟨bm.1.mono (by decide), bm.2.mono (by decide), fun s hs => ?_⟩
    have top := Bd.add ((Bd.mul hr.1 ha bm.2).mono (q := 1185) (by decide)) ((Bd.sg1 bm.1 hs).mono (q := 1185) (by decide))
    have tb := Bd.mul hr.1 top (Bd.sg2 (k := 2) bm.2 (by decide))
    refine ⟨tb.mono (by decide), fun g e => ?_⟩
    have z := rootIn_bd1 hr.1 (tb.mono (q := 2341) (by decide)) e
    exact ⟨z.1.mono (by decide), z.2.mono (by decide)⟩
/-- the roots up to the i-th -/
theorem rL_split : ∀ (l : Nat) (r : Rt l) (i : Nat), i < l → ∃ (q : Rt (i + 1)) (rest : List D), rL l r = rL (i + 1) q ++ rest ∧ (RB l r → RB (i + 1) q) ∧ (goodR l r = true → goodR (i + 1) q = true)
  | 0, r, i, h => absurd h (Nat.not_lt_zero i)
  | l + 1, r, i, h => by
    by_cases hi : i = l
    · subst hi
      exact ⟨r, [], (List.append_nil _).symm, id, id⟩
    · obtain ⟨q, rest, h1, h2, h3⟩ := rL_split l r.1 i (by omega)
      refine ⟨q, rest ++ [dT l r.2], ?_, fun h => h2 h.1, fun h => h3 ?_⟩
      · rw [rL_succ, h1, List.append_assoc]
      · have h : (goodR l r.1 && (rootIn l r.1 r.2).isNone) = true := h
        exact (Bool.and_eq_true_iff.mp h).1
theorem goodR_succ {l : Nat} {r : Rt (l + 1)} (h : goodR (l + 1) r = true) : rootIn l r.1 r.2 = none := by
  have h : (goodR l r.1 && (rootIn l r.1 r.2).isNone) = true := h
  exact Option.isNone_iff_eq_none.mp (Bool.and_eq_true_iff.mp h).2
end M21



set_option maxRecDepth 100000
set_option maxHeartbeats 2000000
/-! N21: numbers with roots make a ring; which have no divisors of nothing. Own work. -/
namespace M21
open PySem L2 DL
open Lean.Grind (CommRing)
/-- a + b * root of d -/
structure Q (R : Type) [CommRing R] (d : R) where
  a : R
  b : R
namespace Q
variable {R : Type} [CommRing R] {d : R}
theorem ext {x y : Q R d} (h1 : x.a = y.a) (h2 : x.b = y.b) : x = y := by
  cases x; cases y; cases h1; cases h2; rfl
/-- numbers within R -/
abbrev nc (R : Type) [CommRing R] (n : Nat) : R := @NatCast.natCast R Lean.Grind.Semiring.natCast n
abbrev ic (R : Type) [CommRing R] (i : Int) : R := @IntCast.intCast R Lean.Grind.Ring.intCast i
def mulQ (x y : Q R d) : Q R d := ⟨x.a * y.a + x.b * y.b * d, x.a * y.b + x.b * y.a⟩
def powQ (x : Q R d) : Nat → Q R d
  | 0 => ⟨1, 0⟩
  | n + 1 => mulQ (powQ x n) x
instance : CommRing (Q R d) where
  add x y := ⟨x.a + y.a, x.b + y.b⟩
  mul x y := mulQ x y
  neg x := ⟨-x.a, -x.b⟩
  sub x y := ⟨x.a - y.a, x.b - y.b⟩
  natCast := ⟨fun n => ⟨nc R n, 0⟩⟩
  ofNat n := ⟨⟨OfNat.ofNat n, 0⟩⟩
  nsmul := ⟨fun n x => ⟨nc R n * x.a, nc R n * x.b⟩⟩
  npow := ⟨fun x n => powQ x n⟩
  intCast := ⟨fun i => ⟨ic R i, 0⟩⟩
  zsmul := ⟨fun i x => ⟨ic R i * x.a, ic R i * x.b⟩⟩
  add_zero x := ext (by show x.a + 0 = x.a; grind) (by show x.b + 0 = x.b; grind)
  add_comm x y := ext (by show x.a + y.a = y.a + x.a; grind) (by show x.b + y.b = y.b + x.b; grind)
  add_assoc x y z := ext (by show x.a + y.a + z.a = x.a + (y.a + z.a); grind) (by show x.b + y.b + z.b = x.b + (y.b + z.b); grind)
  mul_comm x y := ext (by show x.a * y.a + x.b * y.b * d = y.a * x.a + y.b * x.b * d; grind) (by show x.a * y.b + x.b * y.a = y.a * x.b + y.b * x.a; grind)
  mul_assoc x y z := ext (by show (x.a * y.a + x.b * y.b * d) * z.a + (x.a * y.b + x.b * y.a) * z.b * d = x.a * (y.a * z.a + y.b * z.b * d) + x.b * (y.a * z.b + y.b * z.a) * d; grind) (by show (x.a * y.a + x.b * y.b * d) * z.b + (x.a * y.b + x.b * y.a) * z.a = x.a * (y.a * z.b + y.b * z.a) + x.b * (y.a * z.a + y.b * z.b * d); grind)
  mul_one x := ext (by show x.a * 1 + x.b * 0 * d = x.a; grind) (by show x.a * 0 + x.b * 1 = x.b; grind)
  one_mul x := ext (by show 1 * x.a + 0 * x.b * d = x.a; grind) (by show 1 * x.b + 0 * x.a = x.b; grind)
  left_distrib x y z := ext (by show x.a * (y.a + z.a) + x.b * (y.b + z.b) * d = x.a * y.a + x.b * y.b * d + (x.a * z.a + x.b * z.b * d); grind) (by show x.a * (y.b + z.b) + x.b * (y.a + z.a) = x.a * y.b + x.b * y.a + (x.a * z.b + x.b * z.a); grind)
  right_distrib x y z := ext (by show (x.a + y.a) * z.a + (x.b + y.b) * z.b * d = x.a * z.a + x.b * z.b * d + (y.a * z.a + y.b * z.b * d); grind) (by show (x.a + y.a) * z.b + (x.b + y.b) * z.a = x.a * z.b + x.b * z.a + (y.a * z.b + y.b * z.a); grind)
  zero_mul x := ext (by show 0 * x.a + 0 * x.b * d = (0 : R); grind) (by show 0 * x.b + 0 * x.a = (0 : R); grind)
  mul_zero x := ext (by show x.a * 0 + x.b * 0 * d = (0 : R); grind) (by show x.a * 0 + x.b * 0 = (0 : R); grind)
  pow_zero x := rfl
  pow_succ x n := rfl
  ofNat_succ n := ext (by show (OfNat.ofNat (n + 1) : R) = OfNat.ofNat n + 1; exact Lean.Grind.Semiring.ofNat_succ n) (by show (0 : R) = 0 + 0; grind)
  ofNat_eq_natCast n := ext (by show (OfNat.ofNat n : R) = nc R n; exact Lean.Grind.Semiring.ofNat_eq_natCast n) rfl
  nsmul_eq_natCast_mul n x := ext (by show nc R n * x.a = nc R n * x.a + 0 * x.b * d; grind) (by show nc R n * x.b = nc R n * x.b + 0 * x.a; grind)
  neg_add_cancel x := ext (by show -x.a + x.a = (0 : R); grind) (by show -x.b + x.b = (0 : R); grind)
  sub_eq_add_neg x y := ext (by show x.a - y.a = x.a + -y.a; grind) (by show x.b - y.b = x.b + -y.b; grind)
  neg_zsmul i x := ext (by show ic R (-i) * x.a = -(ic R i * x.a); rw [show ic R (-i) = -ic R i from Lean.Grind.Ring.intCast_neg i]; grind) (by show ic R (-i) * x.b = -(ic R i * x.b); rw [show ic R (-i) = -ic R i from Lean.Grind.Ring.intCast_neg i]; grind)
  zsmul_natCast_eq_nsmul n x := ext (by show ic R (n : Int) * x.a = nc R n * x.a; rw [show ic R (n : Int) = nc R n from Lean.Grind.Ring.intCast_natCast n]) (by show ic R (n : Int) * x.b = nc R n * x.b; rw [show ic R (n : Int) = nc R n from Lean.Grind.Ring.intCast_natCast n])
  intCast_ofNat n := ext (by show ic R (OfNat.ofNat n : Int) = OfNat.ofNat n; exact Lean.Grind.Ring.intCast_ofNat n) rfl
  intCast_neg i := ext (by show ic R (-i) = -ic R i; exact Lean.Grind.Ring.intCast_neg i) (by show (0 : R) = -0; grind)
theorem mul_a (x y : Q R d) : (x * y).a = x.a * y.a + x.b * y.b * d := rfl
theorem mul_b (x y : Q R d) : (x * y).b = x.a * y.b + x.b * y.a := rfl
theorem zero_a : (0 : Q R d).a = 0 := rfl
theorem zero_b : (0 : Q R d).b = 0 := rfl
end Q
/-- a number with roots within a ring -/
structure Mod (l : Nat) (r : Rt l) where
  S : Type
  inst : CommRing S
  f : T l → S
  inj : ∀ x y, f x = f y → x = y
  add : ∀ x y, f (addT l x y) = f x + f y
  mul : ∀ x y, f (mulT l r x y) = f x * f y
  zero : f (zT l) = 0
def mod0 : Mod 0 () where
  S := Int
  inst := inferInstance
  f x := x
  inj _ _ h := h
  add _ _ := rfl
  mul _ _ := rfl
  zero := rfl
def modS {l : Nat} {r : Rt (l + 1)} (M : Mod l r.1) : Mod (l + 1) r :=
  letI := M.inst
  { S := Q M.S (M.f r.2)
    inst := inferInstance
    f := fun x => ⟨M.f x.1, M.f x.2⟩
    inj := fun x y h => Prod.ext (M.inj _ _ (congrArg Q.a h)) (M.inj _ _ (congrArg Q.b h))
    add := fun x y => Q.ext (M.add _ _) (M.add _ _)
    mul := fun x y => Q.ext (by
      show M.f (addT l (mulT l r.1 x.1 y.1) (mulT l r.1 (mulT l r.1 x.2 y.2) r.2)) = M.f x.1 * M.f y.1 + M.f x.2 * M.f y.2 * M.f r.2
      rw [M.add, M.mul, M.mul, M.mul]) (by
      show M.f (addT l (mulT l r.1 x.1 y.2) (mulT l r.1 x.2 y.1)) = M.f x.1 * M.f y.2 + M.f x.2 * M.f y.1
      rw [M.add, M.mul, M.mul])
    zero := Q.ext M.zero M.zero }
def modT : (l : Nat) → (r : Rt l) → Mod l r
  | 0, _ => mod0
  | l + 1, r => modS (modT l r.1)
theorem mul_comm' {l : Nat} {r : Rt l} (x y : T l) : mulT l r x y = mulT l r y x := by
  letI := (modT l r).inst
  refine (modT l r).inj _ _ ?_
  rw [(modT l r).mul, (modT l r).mul]
  exact Lean.Grind.CommSemiring.mul_comm _ _
theorem mul_assoc' {l : Nat} {r : Rt l} (x y z : T l) : mulT l r (mulT l r x y) z = mulT l r x (mulT l r y z) := by
  letI := (modT l r).inst
  refine (modT l r).inj _ _ ?_
  rw [(modT l r).mul, (modT l r).mul, (modT l r).mul, (modT l r).mul]
  exact Lean.Grind.Semiring.mul_assoc _ _ _
theorem mul_add' {l : Nat} {r : Rt l} (x y z : T l) : mulT l r x (addT l y z) = addT l (mulT l r x y) (mulT l r x z) := by
  letI := (modT l r).inst
  refine (modT l r).inj _ _ ?_
  rw [(modT l r).mul, (modT l r).add, (modT l r).add, (modT l r).mul, (modT l r).mul]
  exact Lean.Grind.Semiring.left_distrib _ _ _
/-! ### no divisors of nothing -/
def NZD (R : Type) [CommRing R] : Prop := ∀ x y : R, x * y = 0 → x = 0 ∨ y = 0
/-- not the square of a quotient -/
def NS (R : Type) [CommRing R] (d : R) : Prop := ∀ a b : R, a * a = b * b * d → a = 0 ∧ b = 0
def TW (R : Type) [CommRing R] : Prop := ∀ x : R, x + x = 0 → x = 0
theorem nzd_Q {R : Type} [CommRing R] {d : R} (h : NZD R) (ns : NS R d) : NZD (Q R d) := by
  intro x y e
  have e1 : x.a * y.a + x.b * y.b * d = 0 := congrArg Q.a e
  have e2 : x.a * y.b + x.b * y.a = 0 := congrArg Q.b e
  have n1 : (x.a * x.a - x.b * x.b * d) * y.a = 0 := by grind
  have n2 : (x.a * x.a - x.b * x.b * d) * y.b = 0 := by grind
  rcases h _ _ n1 with z | z1
  · obtain ⟨q1, q2⟩ := ns x.a x.b (by grind)
    exact .inl (Q.ext q1 q2)
  · rcases h _ _ n2 with z | z2
    · obtain ⟨q1, q2⟩ := ns x.a x.b (by grind)
      exact .inl (Q.ext q1 q2)
    · exact .inr (Q.ext z1 z2)
theorem tw_Q {R : Type} [CommRing R] {d : R} (h : TW R) : TW (Q R d) := fun x e => Q.ext (h _ (congrArg Q.a e)) (h _ (congrArg Q.b e))
theorem ns_Q {R : Type} [CommRing R] {d e : R} (hz : NZD R) (tw : TW R) (hd : d ≠ 0) (he : e ≠ 0) (h1 : NS R e) (h2 : NS R (e * d)) : NS (Q R d) ⟨e, 0⟩ := by
  intro p q h
  have a1 : p.a * p.a + p.b * p.b * d = (q.a * q.a + q.b * q.b * d) * e + (q.a * q.b + q.b * q.a) * 0 * d := congrArg Q.a h
  have a2 : p.a * p.b + p.b * p.a = (q.a * q.a + q.b * q.b * d) * 0 + (q.a * q.b + q.b * q.a) * e := congrArg Q.b h
  have a3 : p.a * p.b = q.a * q.b * e := by
    have : p.a * p.b - q.a * q.b * e = 0 := tw _ (by grind)
    grind
  have a4 : (p.a * p.a - p.b * p.b * d - e * (q.a * q.a - q.b * q.b * d)) * (p.a * p.a - p.b * p.b * d + e * (q.a * q.a - q.b * q.b * d)) = 0 := by grind
  rcases hz _ _ a4 with z | z
  · have b1 : p.a * p.a = q.a * q.a * e := by
      have : p.a * p.a - q.a * q.a * e = 0 := tw _ (by grind)
      grind
    have b2 : d * (p.b * p.b - q.b * q.b * e) = 0 := tw _ (by grind)
    obtain ⟨c1, c2⟩ := h1 _ _ b1
    rcases hz _ _ b2 with w | w
    · exact absurd w hd
    · obtain ⟨c3, c4⟩ := h1 p.b q.b (by grind)
      exact ⟨Q.ext c1 c3, Q.ext c2 c4⟩
  · have b1 : p.a * p.a = q.b * q.b * (e * d) := by
      have : p.a * p.a - q.b * q.b * (e * d) = 0 := tw _ (by grind)
      grind
    have b2 : (q.a * e) * (q.a * e) = p.b * p.b * (e * d) := by
      have : q.a * q.a * e - p.b * p.b * d = 0 := tw _ (by grind)
      grind
    obtain ⟨c1, c2⟩ := h2 _ _ b1
    obtain ⟨c3, c4⟩ := h2 _ _ b2
    rcases hz _ _ c3 with w | w
    · exact ⟨Q.ext c1 c4, Q.ext w c2⟩
    · exact absurd w he
/-! ### squares of ints -/
theorem nzd_int : NZD Int := fun x y h => Int.mul_eq_zero.mp h
theorem tw_int : TW Int := fun x h => by
  have h : x + x = 0 := h
  omega
theorem ns_neg {d : Int} (hd : d < 0) : NS Int d := by
  intro a b h
  have h : a * a = b * b * d := h
  have h1 : 0 ≤ a * a := by
    rcases Int.le_total 0 a with z | z
    · exact Int.mul_nonneg z z
    · exact Int.mul_nonneg_of_nonpos_of_nonpos z z
  have h2 : 0 ≤ b * b := by
    rcases Int.le_total 0 b with z | z
    · exact Int.mul_nonneg z z
    · exact Int.mul_nonneg_of_nonpos_of_nonpos z z
  have h3 : b * b = 0 := by
    rcases Int.lt_or_eq_of_le h2 with z | z
    · have := Int.mul_neg_of_pos_of_neg z hd
      omega
    · exact z.symm
  rw [h3, Int.zero_mul] at h
  exact ⟨by rcases Int.mul_eq_zero.mp h with z | z <;> exact z, by rcases Int.mul_eq_zero.mp h3 with z | z <;> exact z⟩
theorem sq_mod2 (a : Int) (h : (a * a) % 2 = 0) : a % 2 = 0 := by
  have : a % 2 = 0 ∨ a % 2 = 1 := by omega
  rcases this with h1 | h1
  · exact h1
  · rw [Int.mul_emod, h1] at h; simp at h
theorem sq_mod3 (a : Int) (h : (a * a) % 3 = 0) : a % 3 = 0 := by
  have : a % 3 = 0 ∨ a % 3 = 1 ∨ a % 3 = 2 := by omega
  rcases this with h1 | h1 | h1
  · exact h1
  · rw [Int.mul_emod, h1] at h; simp at h
  · rw [Int.mul_emod, h1] at h; simp at h
theorem sq_mod5 (a : Int) (h : (a * a) % 5 = 0) : a % 5 = 0 := by
  have : a % 5 = 0 ∨ a % 5 = 1 ∨ a % 5 = 2 ∨ a % 5 = 3 ∨ a % 5 = 4 := by omega
  rcases this with h1 | h1 | h1 | h1 | h1
  · exact h1
  · rw [Int.mul_emod, h1] at h; simp at h
  · rw [Int.mul_emod, h1] at h; simp at h
  · rw [Int.mul_emod, h1] at h; simp at h
  · rw [Int.mul_emod, h1] at h; simp at h
theorem ns_2 : NS Int 2 := by
  have key : ∀ (n : Nat) (a b : Int), b.natAbs ≤ n → a * a = b * b * 2 → b = 0 := by
    intro n
    induction n with
    | zero => intro a b h _; omega
    | succ n ih =>
      intro a b hn h
      have ha : a % 2 = 0 := sq_mod2 a (by omega)
      obtain ⟨a', rfl⟩ : ∃ a', a = 2 * a' := ⟨a / 2, by omega⟩
      have h2 : b * b * 1 = 2 * (a' * a') := by
        have e : 2 * a' * (2 * a') = 2 * (2 * (a' * a')) := by grind
        omega
      have hb : b % 2 = 0 := sq_mod2 b (by omega)
      obtain ⟨b', rfl⟩ : ∃ b', b = 2 * b' := ⟨b / 2, by omega⟩
      have h3 : a' * a' = b' * b' * 2 := by
        have e : 2 * b' * (2 * b') = 2 * (2 * (b' * b')) := by grind
        omega
      by_cases z : b' = 0
      · rw [z]; rfl
      · have := ih a' b' (by omega) h3
        exact absurd this z
  intro a b h
  have hb := key _ a b (Nat.le_refl _) h
  subst hb
  have h : a * a = 0 := by
    have h : a * a = 0 * 0 * 2 := h
    omega
  refine ⟨?_, rfl⟩
  rcases Int.mul_eq_zero.mp h with z | z <;> exact z
theorem ns_6 : NS Int 6 := by
  have key : ∀ (n : Nat) (a b : Int), b.natAbs ≤ n → a * a = b * b * 6 → b = 0 := by
    intro n
    induction n with
    | zero => intro a b h _; omega
    | succ n ih =>
      intro a b hn h
      have ha : a % 2 = 0 := sq_mod2 a (by omega)
      obtain ⟨a', rfl⟩ : ∃ a', a = 2 * a' := ⟨a / 2, by omega⟩
      have h2 : b * b * 3 = 2 * (a' * a') := by
        have e : 2 * a' * (2 * a') = 2 * (2 * (a' * a')) := by grind
        omega
      have hb : b % 2 = 0 := sq_mod2 b (by omega)
      obtain ⟨b', rfl⟩ : ∃ b', b = 2 * b' := ⟨b / 2, by omega⟩
      have h3 : a' * a' = b' * b' * 6 := by
        have e : 2 * b' * (2 * b') = 2 * (2 * (b' * b')) := by grind
        omega
      by_cases z : b' = 0
      · rw [z]; rfl
      · have := ih a' b' (by omega) h3
        exact absurd this z
  intro a b h
  have hb := key _ a b (Nat.le_refl _) h
  subst hb
  have h : a * a = 0 := by
    have h : a * a = 0 * 0 * 6 := h
    omega
  refine ⟨?_, rfl⟩
  rcases Int.mul_eq_zero.mp h with z | z <;> exact z
theorem ns_10 : NS Int 10 := by
  have key : ∀ (n : Nat) (a b : Int), b.natAbs ≤ n → a * a = b * b * 10 → b = 0 := by
    intro n
    induction n with
    | zero => intro a b h _; omega
    | succ n ih =>
      intro a b hn h
      have ha : a % 2 = 0 := sq_mod2 a (by omega)
      obtain ⟨a', rfl⟩ : ∃ a', a = 2 * a' := ⟨a / 2, by omega⟩
      have h2 : b * b * 5 = 2 * (a' * a') := by
        have e : 2 * a' * (2 * a') = 2 * (2 * (a' * a')) := by grind
        omega
      have hb : b % 2 = 0 := sq_mod2 b (by omega)
      obtain ⟨b', rfl⟩ : ∃ b', b = 2 * b' := ⟨b / 2, by omega⟩
      have h3 : a' * a' = b' * b' * 10 := by
        have e : 2 * b' * (2 * b') = 2 * (2 * (b' * b')) := by grind
        omega
      by_cases z : b' = 0
      · rw [z]; rfl
      · have := ih a' b' (by omega) h3
        exact absurd this z
  intro a b h
  have hb := key _ a b (Nat.le_refl _) h
  subst hb
  have h : a * a = 0 := by
    have h : a * a = 0 * 0 * 10 := h
    omega
  refine ⟨?_, rfl⟩
  rcases Int.mul_eq_zero.mp h with z | z <;> exact z
theorem ns_30 : NS Int 30 := by
  have key : ∀ (n : Nat) (a b : Int), b.natAbs ≤ n → a * a = b * b * 30 → b = 0 := by
    intro n
    induction n with
    | zero => intro a b h _; omega
    | succ n ih =>
      intro a b hn h
      have ha : a % 2 = 0 := sq_mod2 a (by omega)
      obtain ⟨a', rfl⟩ : ∃ a', a = 2 * a' := ⟨a / 2, by omega⟩
      have h2 : b * b * 15 = 2 * (a' * a') := by
        have e : 2 * a' * (2 * a') = 2 * (2 * (a' * a')) := by grind
        omega
      have hb : b % 2 = 0 := sq_mod2 b (by omega)
      obtain ⟨b', rfl⟩ : ∃ b', b = 2 * b' := ⟨b / 2, by omega⟩
      have h3 : a' * a' = b' * b' * 30 := by
        have e : 2 * b' * (2 * b') = 2 * (2 * (b' * b')) := by grind
        omega
      by_cases z : b' = 0
      · rw [z]; rfl
      · have := ih a' b' (by omega) h3
        exact absurd this z
  intro a b h
  have hb := key _ a b (Nat.le_refl _) h
  subst hb
  have h : a * a = 0 := by
    have h : a * a = 0 * 0 * 30 := h
    omega
  refine ⟨?_, rfl⟩
  rcases Int.mul_eq_zero.mp h with z | z <;> exact z
theorem ns_3 : NS Int 3 := by
  have key : ∀ (n : Nat) (a b : Int), b.natAbs ≤ n → a * a = b * b * 3 → b = 0 := by
    intro n
    induction n with
    | zero => intro a b h _; omega
    | succ n ih =>
      intro a b hn h
      have ha : a % 3 = 0 := sq_mod3 a (by omega)
      obtain ⟨a', rfl⟩ : ∃ a', a = 3 * a' := ⟨a / 3, by omega⟩
      have h2 : b * b * 1 = 3 * (a' * a') := by
        have e : 3 * a' * (3 * a') = 3 * (3 * (a' * a')) := by grind
        omega
      have hb : b % 3 = 0 := sq_mod3 b (by omega)
      obtain ⟨b', rfl⟩ : ∃ b', b = 3 * b' := ⟨b / 3, by omega⟩
      have h3 : a' * a' = b' * b' * 3 := by
        have e : 3 * b' * (3 * b') = 3 * (3 * (b' * b')) := by grind
        omega
      by_cases z : b' = 0
      · rw [z]; rfl
      · have := ih a' b' (by omega) h3
        exact absurd this z
  intro a b h
  have hb := key _ a b (Nat.le_refl _) h
  subst hb
  have h : a * a = 0 := by
    have h : a * a = 0 * 0 * 3 := h
    omega
  refine ⟨?_, rfl⟩
  rcases Int.mul_eq_zero.mp h with z | z <;> exact z
theorem ns_15 : NS Int 15 := by
  have key : ∀ (n : Nat) (a b : Int), b.natAbs ≤ n → a * a = b * b * 15 → b = 0 := by
    intro n
    induction n with
    | zero => intro a b h _; omega
    | succ n ih =>
      intro a b hn h
      have ha : a % 3 = 0 := sq_mod3 a (by omega)
      obtain ⟨a', rfl⟩ : ∃ a', a = 3 * a' := ⟨a / 3, by omega⟩
      have h2 : b * b * 5 = 3 * (a' * a') := by
        have e : 3 * a' * (3 * a') = 3 * (3 * (a' * a')) := by grind
        omega
      have hb : b % 3 = 0 := sq_mod3 b (by omega)
      obtain ⟨b', rfl⟩ : ∃ b', b = 3 * b' := ⟨b / 3, by omega⟩
      have h3 : a' * a' = b' * b' * 15 := by
        have e : 3 * b' * (3 * b') = 3 * (3 * (b' * b')) := by grind
        omega
      by_cases z : b' = 0
      · rw [z]; rfl
      · have := ih a' b' (by omega) h3
        exact absurd this z
  intro a b h
  have hb := key _ a b (Nat.le_refl _) h
  subst hb
  have h : a * a = 0 := by
    have h : a * a = 0 * 0 * 15 := h
    omega
  refine ⟨?_, rfl⟩
  rcases Int.mul_eq_zero.mp h with z | z <;> exact z
theorem ns_5 : NS Int 5 := by
  have key : ∀ (n : Nat) (a b : Int), b.natAbs ≤ n → a * a = b * b * 5 → b = 0 := by
    intro n
    induction n with
    | zero => intro a b h _; omega
    | succ n ih =>
      intro a b hn h
      have ha : a % 5 = 0 := sq_mod5 a (by omega)
      obtain ⟨a', rfl⟩ : ∃ a', a = 5 * a' := ⟨a / 5, by omega⟩
      have h2 : b * b * 1 = 5 * (a' * a') := by
        have e : 5 * a' * (5 * a') = 5 * (5 * (a' * a')) := by grind
        omega
      have hb : b % 5 = 0 := sq_mod5 b (by omega)
      obtain ⟨b', rfl⟩ : ∃ b', b = 5 * b' := ⟨b / 5, by omega⟩
      have h3 : a' * a' = b' * b' * 5 := by
        have e : 5 * b' * (5 * b') = 5 * (5 * (b' * b')) := by grind
        omega
      by_cases z : b' = 0
      · rw [z]; rfl
      · have := ih a' b' (by omega) h3
        exact absurd this z
  intro a b h
  have hb := key _ a b (Nat.le_refl _) h
  subst hb
  have h : a * a = 0 := by
    have h : a * a = 0 * 0 * 5 := h
    omega
  refine ⟨?_, rfl⟩
  rcases Int.mul_eq_zero.mp h with z | z <;> exact z
theorem sq_sum {p q : Int} (h : p * p + q * q = 0) : p = 0 ∧ q = 0 := by
  have h1 : 0 ≤ p * p := by
    rcases Int.le_total 0 p with z | z
    · exact Int.mul_nonneg z z
    · exact Int.mul_nonneg_of_nonpos_of_nonpos z z
  have h2 : 0 ≤ q * q := by
    rcases Int.le_total 0 q with z | z
    · exact Int.mul_nonneg z z
    · exact Int.mul_nonneg_of_nonpos_of_nonpos z z
  have a : p * p = 0 := by omega
  have b : q * q = 0 := by omega
  exact ⟨by rcases Int.mul_eq_zero.mp a with z | z <;> exact z, by rcases Int.mul_eq_zero.mp b with z | z <;> exact z⟩
/-- 1 + root of 2 -/
theorem ns_11 : NS (Q Int 2) ⟨1, 1⟩ := by
  intro p q h
  obtain ⟨x, y⟩ := p
  obtain ⟨u, v⟩ := q
  have a1 : x * x + y * y * 2 = (u * u + v * v * 2) * 1 + (u * v + v * u) * 1 * 2 := congrArg Q.a h
  have a2 : x * y + y * x = (u * u + v * v * 2) * 1 + (u * v + v * u) * 1 := congrArg Q.b h
  have a3 : (x * x - y * y * 2) * (x * x - y * y * 2) + (u * u - v * v * 2) * (u * u - v * v * 2) = 0 := by grind
  obtain ⟨b1, b2⟩ := sq_sum a3
  obtain ⟨c1, c2⟩ := ns_2 x y (by show x * x = y * y * 2; omega)
  obtain ⟨c3, c4⟩ := ns_2 u v (by show u * u = v * v * 2; omega)
  exact ⟨Q.ext c1 c2, Q.ext c3 c4⟩
theorem dom_of {l : Nat} {r : Rt l} (h : @NZD (modT l r).S (modT l r).inst) (x y : T l) : mulT l r x y = zT l ↔ x = zT l ∨ y = zT l := by
  letI := (modT l r).inst
  have hz := (modT l r).zero
  constructor
  · intro e
    have e1 : (modT l r).f x * (modT l r).f y = 0 := by rw [← (modT l r).mul, e, hz]
    rcases h _ _ e1 with z | z
    · exact .inl ((modT l r).inj _ _ (by rw [z, hz]))
    · exact .inr ((modT l r).inj _ _ (by rw [z, hz]))
  · intro e
    refine (modT l r).inj _ _ ?_
    rw [(modT l r).mul, hz]
    rcases e with rfl | rfl
    · rw [hz]; exact Lean.Grind.Semiring.zero_mul _
    · rw [hz]; exact Lean.Grind.Semiring.mul_zero _
theorem nz2 {a b : Int} {d : Int} (h : a ≠ 0) : (⟨a, b⟩ : Q Int d) ≠ 0 := fun e => h (congrArg Q.a e)
/-- the rings -/
theorem d_2 : NZD (Q Int 2) := nzd_Q nzd_int ns_2
theorem d_m1 : NZD (Q Int (-1)) := nzd_Q nzd_int (ns_neg (by decide))
theorem d_3 : NZD (Q Int 3) := nzd_Q nzd_int ns_3
theorem d_5 : NZD (Q Int 5) := nzd_Q nzd_int ns_5
theorem s_23 : NS (Q Int 2) ⟨3, 0⟩ := ns_Q nzd_int tw_int (by decide) (by decide) ns_3 ns_6
theorem s_25 : NS (Q Int 2) ⟨5, 0⟩ := ns_Q nzd_int tw_int (by decide) (by decide) ns_5 ns_10
theorem s_215 : NS (Q Int 2) ⟨15, 0⟩ := ns_Q nzd_int tw_int (by decide) (by decide) ns_15 ns_30
theorem d_23 : NZD (Q (Q Int 2) ⟨3, 0⟩) := nzd_Q d_2 s_23
theorem d_m12 : NZD (Q (Q Int (-1)) ⟨2, 0⟩) := nzd_Q d_m1 (ns_Q nzd_int tw_int (by decide) (by decide) ns_2 (ns_neg (by decide)))
theorem d_211 : NZD (Q (Q Int 2) ⟨1, 1⟩) := nzd_Q d_2 ns_11
theorem d_5m1 : NZD (Q (Q Int 5) ⟨-1, 0⟩) := nzd_Q d_5 (ns_Q nzd_int tw_int (by decide) (by decide) (ns_neg (by decide)) (ns_neg (by decide)))
theorem d_235 : NZD (Q (Q (Q Int 2) ⟨3, 0⟩) ⟨⟨5, 0⟩, 0⟩) := nzd_Q d_23 (ns_Q d_2 (tw_Q tw_int) (nz2 (by decide)) (nz2 (by decide)) s_25 s_215)
end M21


set_option maxRecDepth 100000
set_option maxHeartbeats 2000000
/-! N22: rootIn tells a root, and misses none. Own work. -/
namespace M21
open DL Lean.Grind
/-! ### the whole root -/
theorem bis_inv : ∀ (k : Nat) (n low high : Int), 0 ≤ low → low < high → high - low ≤ k + 1 → low * low ≤ n → n < high * high → bis k n low high * bis k n low high ≤ n ∧ n < (bis k n low high + 1) * (bis k n low high + 1) ∧ 0 ≤ bis k n low high
  | 0, n, low, high, h0, h1, h2, h3, h4 => by
    have e : high = low + 1 := by omega
    subst e
    exact ⟨h3, h4, h0⟩
  | k + 1, n, low, high, h0, h1, h2, h3, h4 => by
    unfold bis
    have e : (low + high).fdiv 2 = (low + high) / 2 := Int.fdiv_eq_ediv_of_nonneg _ (by decide)
    rw [e]
    split
    · split
      · exact bis_inv k n _ _ (by omega) (by omega) (by omega) (by assumption) h4
      · exact bis_inv k n low ((low + high) / 2) h0 (by omega) (by omega) h3 (by omega)
    · have e : high = low + 1 := by omega
      subst e
      exact ⟨h3, h4, h0⟩
theorem rootO_sound {n i : Int} (h : rootO n = some i) : i * i = n := by
  unfold rootO at h
  split at h
  · cases h
  · split at h
    · rename_i e
      cases h
      exact e
    · cases h
theorem rootO_sq {s : Int} (hs : 0 ≤ s) : rootO (s * s) ≠ none := by
  have h0 : 0 ≤ s * s := Int.mul_nonneg hs hs
  unfold rootO
  rw [if_neg (by omega)]
  generalize hn : s * s = n at h0
  obtain ⟨a, b, c⟩ := bis_inv (n.toNat + 1) n 0 (n + 1) (by decide) (by omega) (by omega) (by omega) (by
    have : (n + 1) * (n + 1) = n * n + 2 * n + 1 := by grind
    have : 0 ≤ n * n := Int.mul_nonneg h0 h0
    omega)
  generalize bis (n.toNat + 1) n 0 (n + 1) = t at a b c
  have e : t = s := by
    subst hn
    rcases Int.lt_trichotomy t s with q | q | q
    · exfalso
      have h1 : (t + 1) * (t + 1) ≤ s * s := Int.mul_le_mul (by omega) (by omega) (by omega) (by omega)
      omega
    · exact q
    · exfalso
      have h1 : s * s < t * t := Int.mul_lt_mul' (by omega) q (by omega) (by omega)
      omega
  subst e
  rw [if_pos hn]
  simp
theorem rootO_complete {n t u : Int} (hu : u ≠ 0) (h : t * t = n * (u * u)) : rootO n ≠ none := by
  have h1 : u.natAbs ^ 2 ∣ t.natAbs ^ 2 := by
    refine ⟨n.natAbs, ?_⟩
    have := congrArg Int.natAbs h
    rw [Int.natAbs_mul, Int.natAbs_mul, Int.natAbs_mul] at this
    rw [Nat.pow_two, Nat.pow_two, this, Nat.mul_comm]
  have h2 : u.natAbs ∣ t.natAbs := (Nat.pow_dvd_pow_iff (by decide)).mp h1
  have h3 : u ∣ t := Int.natAbs_dvd_natAbs.mp h2
  obtain ⟨w, rfl⟩ := h3
  have hz : u * u ≠ 0 := fun z => hu (by rcases Int.mul_eq_zero.mp z with q | q <;> exact q)
  have e : w * w = n := by
    refine Int.eq_of_mul_eq_mul_right hz ?_
    rw [← h]
    grind
  have e2 : (w.natAbs : Int) * (w.natAbs : Int) = n := by rw [← e]; exact Int.natAbs_mul_self
  rw [← e2]
  exact rootO_sq (by omega)

/-! ### the ring of a row of roots -/
theorem f_one : ∀ (l : Nat) (r : Rt l), letI := (modT l r).inst; (modT l r).f (pT l 1) = 1
  | 0, _ => rfl
  | l + 1, r => by
    letI := (modT l r.1).inst
    exact Q.ext (f_one l r.1) (modT l r.1).zero
theorem f_sur : ∀ (l : Nat) (r : Rt l) (s : (modT l r).S), ∃ x, (modT l r).f x = s
  | 0, _, s => ⟨s, rfl⟩
  | l + 1, r, s => by
    letI := (modT l r.1).inst
    obtain ⟨x, hx⟩ := f_sur l r.1 s.a
    obtain ⟨y, hy⟩ := f_sur l r.1 s.b
    exact ⟨(x, y), Q.ext hx hy⟩
theorem sg_one : ∀ (l : Nat) (x : T l), sg l 1 x = x
  | 0, x => Int.one_mul x
  | l + 1, x => Prod.ext (sg_one l x.1) (sg_one l x.2)
theorem sg_two : ∀ (l : Nat) (x : T l), sg l 2 x = addT l x x
  | 0, x => Int.two_mul x
  | l + 1, x => Prod.ext (sg_two l x.1) (sg_two l x.2)
theorem sg_neg : ∀ (l : Nat) (x : T l), addT l x (sg l (-1) x) = zT l
  | 0, x => (by intro y; omega : ∀ y : Int, y + (-1) * y = 0) x
  | l + 1, x => Prod.ext (sg_neg l x.1) (sg_neg l x.2)
section
variable {l : Nat} {r : Rt l}
theorem f_sg1 (x : T l) : (modT l r).f (sg l 1 x) = (modT l r).f x := by rw [sg_one]
theorem f_sg2 (x : T l) : letI := (modT l r).inst; (modT l r).f (sg l 2 x) = (modT l r).f x + (modT l r).f x := by
  rw [sg_two]; exact (modT l r).add _ _
theorem f_neg (x : T l) : letI := (modT l r).inst; (modT l r).f (sg l (-1) x) = - (modT l r).f x := by
  letI := (modT l r).inst
  have h := (modT l r).add x (sg l (-1) x)
  rw [sg_neg, (modT l r).zero] at h
  show _ = _
  grind
theorem f_sub (x y : T l) : letI := (modT l r).inst; (modT l r).f (subT l x y) = (modT l r).f x - (modT l r).f y := by
  letI := (modT l r).inst
  have h := (modT l r).add x (sg l (-1) y)
  have h2 := f_neg (r := r) y
  show (modT l r).f (addT l x (sg l (-1) y)) = _
  rw [h, h2]
  grind
theorem f_zero (x : T l) : letI := (modT l r).inst; (modT l r).f x = 0 ↔ zB l x = true := by
  letI := (modT l r).inst
  rw [zB_iff]
  exact ⟨fun e => (modT l r).inj _ _ (by rw [e, (modT l r).zero]), fun e => by rw [e, (modT l r).zero]⟩
end
/-- each root is no square -/
def Chain : (l : Nat) → Rt l → Prop
  | 0, _ => True
  | l + 1, r => Chain l r.1 ∧ @NS (modT l r.1).S (modT l r.1).inst ((modT l r.1).f r.2)
theorem chain_nzd : ∀ {l : Nat} {r : Rt l}, Chain l r → @NZD (modT l r).S (modT l r).inst
  | 0, _, _ => nzd_int
  | l + 1, r, h => by
    letI := (modT l r.1).inst
    exact nzd_Q (chain_nzd h.1) h.2
theorem chain_tw : ∀ {l : Nat} {r : Rt l}, @TW (modT l r).S (modT l r).inst
  | 0, _ => tw_int
  | l + 1, r => by
    letI := (modT l r.1).inst
    exact tw_Q (chain_tw (r := r.1))
theorem one_ne : ∀ {l : Nat} {r : Rt l}, letI := (modT l r).inst; (1 : (modT l r).S) ≠ 0
  | 0, _ => by show (1 : Int) ≠ 0; decide
  | l + 1, r => by
    letI := (modT l r.1).inst
    exact fun e => one_ne (r := r.1) (congrArg Q.a e)
def Sound (l : Nat) (r : Rt l) : Prop := letI := (modT l r).inst; ∀ x g, rootIn l r x = some g → (modT l r).f g.1 * (modT l r).f g.1 = (modT l r).f x * ((modT l r).f g.2 * (modT l r).f g.2) ∧ (modT l r).f g.2 ≠ 0
def Full (l : Nat) (r : Rt l) : Prop := letI := (modT l r).inst; ∀ (x : T l) (t u : (modT l r).S), t * t = (modT l r).f x * (u * u) → u ≠ 0 → rootIn l r x ≠ none

section
variable {R : Type} [CommRing R] {d : R}
/-- what a sign tells -/
theorem sign_sound (nz : NZD R) (tw : TW R) {a b m1 m2 e g1 g2 : R} (hm2 : m2 ≠ 0) (he : e * e = 1) (hm : m1 * m1 = (a * a - b * b * d) * (m2 * m2)) (hg : g1 * g1 = (a * m2 + e * m1) * (m2 + m2) * (g2 * g2)) :
    (g1 * g1 + g1 * g1) * (g1 * g1 + g1 * g1) + (g2 * (m2 + m2)) * (g2 * (m2 + m2)) * b * ((g2 * (m2 + m2)) * (g2 * (m2 + m2)) * b) * d = a * ((g1 * (g2 * (m2 + m2)) + g1 * (g2 * (m2 + m2))) * (g1 * (g2 * (m2 + m2)) + g1 * (g2 * (m2 + m2)))) := by
  generalize hs : g1 * g1 = S at *
  generalize ht : g2 * g2 = G at *
  generalize hM : m2 * m2 = M at *
  have e1 : (S + S) * (S + S) + (g2 * (m2 + m2)) * (g2 * (m2 + m2)) * b * ((g2 * (m2 + m2)) * (g2 * (m2 + m2)) * b) * d - a * ((g1 * (g2 * (m2 + m2)) + g1 * (g2 * (m2 + m2))) * (g1 * (g2 * (m2 + m2)) + g1 * (g2 * (m2 + m2)))) = 0 := by
    have k1 : (g2 * (m2 + m2)) * (g2 * (m2 + m2)) = G * M + G * M + G * M + G * M := by grind
    have k2 : (g1 * (g2 * (m2 + m2)) + g1 * (g2 * (m2 + m2))) * (g1 * (g2 * (m2 + m2)) + g1 * (g2 * (m2 + m2))) = 16 * (S * G * M) := by grind
    rw [k1, k2]
    have k3 : (a * m2 + e * m1) * (m2 + m2) = 2 * (a * M + e * m1 * m2) := by grind
    rw [k3] at hg
    have k4 : (e * m1 * m2) * (e * m1 * m2) = (a * a - b * b * d) * M * M := by grind
    generalize e * m1 * m2 = w at *
    grind
  grind
theorem zero_mul' (x : R) : 0 * x = 0 := Semiring.zero_mul x
theorem nz_mul (nz : NZD R) {x y : R} (hx : x ≠ 0) (hy : y ≠ 0) : x * y ≠ 0 := fun e => (nz _ _ e).elim hx hy
theorem nz_dbl (tw : TW R) {x : R} (hx : x ≠ 0) : x + x ≠ 0 := fun e => hx (tw _ e)
theorem d_ne (ns : NS R d) (h1 : (1 : R) ≠ 0) : d ≠ 0 := fun e => h1 (ns 0 1 (by rw [e]; grind)).2
end

theorem sound_succ {l : Nat} {r : Rt (l + 1)} (c : Chain (l + 1) r) (ih : Sound l r.1) : Sound (l + 1) r := by
  letI i1 := (modT l r.1).inst
  letI i2 := (modT (l + 1) r).inst
  have nz := chain_nzd c.1
  have tw := chain_tw (r := r.1)
  have h1 := one_ne (r := r.1)
  have hd := d_ne c.2 h1
  intro x g h
  rw [rootIn_succ] at h
  by_cases h0 : zB (l + 1) x = true
  · rw [if_pos h0] at h
    cases h
    have e0 := (f_zero (r := r) x).mpr h0
    refine ⟨?_, ?_⟩
    · show (modT (l + 1) r).f x * (modT (l + 1) r).f x = _
      rw [e0]
      rw [zero_mul', zero_mul']
    · show (modT (l + 1) r).f (pT (l + 1) 1) ≠ _
      rw [f_one (l + 1) r]
      exact one_ne (r := r)
  · rw [if_neg h0] at h
    have fz := (modT l r.1).zero
    by_cases h2 : zB l x.2 = true
    · rw [if_pos h2] at h
      have eb := (f_zero (r := r.1) x.2).mpr h2
      unfold flatR at h
      cases q : rootIn l r.1 x.1 with
      | some g1 =>
        rw [q] at h
        cases h
        obtain ⟨s1, s2⟩ := ih x.1 g1 q
        refine ⟨Q.ext ?_ ?_, fun e => s2 (congrArg Q.a e)⟩
        · show (modT l r.1).f g1.1 * (modT l r.1).f g1.1 + (modT l r.1).f (zT l) * (modT l r.1).f (zT l) * (modT l r.1).f r.2 = (modT l r.1).f x.1 * ((modT l r.1).f g1.2 * (modT l r.1).f g1.2 + (modT l r.1).f (zT l) * (modT l r.1).f (zT l) * (modT l r.1).f r.2) + (modT l r.1).f x.2 * ((modT l r.1).f g1.2 * (modT l r.1).f (zT l) + (modT l r.1).f (zT l) * (modT l r.1).f g1.2) * (modT l r.1).f r.2
          rw [fz, eb]
          grind
        · show (modT l r.1).f g1.1 * (modT l r.1).f (zT l) + (modT l r.1).f (zT l) * (modT l r.1).f g1.1 = (modT l r.1).f x.1 * ((modT l r.1).f g1.2 * (modT l r.1).f (zT l) + (modT l r.1).f (zT l) * (modT l r.1).f g1.2) + (modT l r.1).f x.2 * ((modT l r.1).f g1.2 * (modT l r.1).f g1.2 + (modT l r.1).f (zT l) * (modT l r.1).f (zT l) * (modT l r.1).f r.2)
          rw [fz, eb]
          grind
      | none =>
        rw [q] at h
        cases q2 : rootIn l r.1 (mulT l r.1 x.1 r.2) with
        | none => rw [q2] at h; cases h
        | some g1 =>
          rw [q2] at h
          cases h
          obtain ⟨s1, s2⟩ := ih _ g1 q2
          rw [(modT l r.1).mul] at s1
          have hm := (modT l r.1).mul g1.2 r.2
          refine ⟨Q.ext ?_ ?_, fun e => ?_⟩
          · show (modT l r.1).f (zT l) * (modT l r.1).f (zT l) + (modT l r.1).f g1.1 * (modT l r.1).f g1.1 * (modT l r.1).f r.2 = (modT l r.1).f x.1 * ((modT l r.1).f (mulT l r.1 g1.2 r.2) * (modT l r.1).f (mulT l r.1 g1.2 r.2) + (modT l r.1).f (zT l) * (modT l r.1).f (zT l) * (modT l r.1).f r.2) + (modT l r.1).f x.2 * ((modT l r.1).f (mulT l r.1 g1.2 r.2) * (modT l r.1).f (zT l) + (modT l r.1).f (zT l) * (modT l r.1).f (mulT l r.1 g1.2 r.2)) * (modT l r.1).f r.2
            rw [fz, eb, hm]
            grind
          · show (modT l r.1).f (zT l) * (modT l r.1).f g1.1 + (modT l r.1).f g1.1 * (modT l r.1).f (zT l) = (modT l r.1).f x.1 * ((modT l r.1).f (mulT l r.1 g1.2 r.2) * (modT l r.1).f (zT l) + (modT l r.1).f (zT l) * (modT l r.1).f (mulT l r.1 g1.2 r.2)) + (modT l r.1).f x.2 * ((modT l r.1).f (mulT l r.1 g1.2 r.2) * (modT l r.1).f (mulT l r.1 g1.2 r.2) + (modT l r.1).f (zT l) * (modT l r.1).f (zT l) * (modT l r.1).f r.2)
            rw [fz, eb]
            grind
          · have e1 : (modT l r.1).f (mulT l r.1 g1.2 r.2) = 0 := congrArg Q.a e
            rw [hm] at e1
            exact nz_mul nz s2 hd e1
    · rw [if_neg h2] at h
      unfold mixR at h
      cases q : rootIn l r.1 (subT l (mulT l r.1 x.1 x.1) (mulT l r.1 (mulT l r.1 x.2 x.2) r.2)) with
      | none => rw [q] at h; cases h
      | some m =>
        rw [q] at h
        obtain ⟨s1, s2⟩ := ih _ m q
        rw [f_sub, (modT l r.1).mul, (modT l r.1).mul, (modT l r.1).mul] at s1
        have sg_ok : ∀ (s : Int) (e : (modT l r.1).S), e * e = 1 → (∀ y, (modT l r.1).f (sg l s y) = e * (modT l r.1).f y) → signR rootIn l r x.1 x.2 m s = some g →
            (modT (l + 1) r).f g.1 * (modT (l + 1) r).f g.1 = (modT (l + 1) r).f x * ((modT (l + 1) r).f g.2 * (modT (l + 1) r).f g.2) ∧ (modT (l + 1) r).f g.2 ≠ 0 := by
          intro s e he hs hg
          unfold signR at hg
          cases q3 : rootIn l r.1 (mulT l r.1 (addT l (mulT l r.1 x.1 m.2) (sg l s m.1)) (sg l 2 m.2)) with
          | none => rw [q3] at hg; cases hg
          | some g1 =>
            rw [q3] at hg
            obtain ⟨u1, u2⟩ := ih _ g1 q3
            rw [(modT l r.1).mul, (modT l r.1).add, (modT l r.1).mul, hs, f_sg2] at u1
            dsimp only at hg
            by_cases hz : zB l g1.1 = true
            · rw [if_pos hz] at hg; cases hg
            · rw [if_neg hz] at hg
              cases hg
              have hg1 : (modT l r.1).f g1.1 ≠ 0 := fun z => hz ((f_zero _).mp z)
              have key := sign_sound nz tw s2 he s1 u1
              have hm2 := f_sg2 (r := r.1) m.2
              have hgm := (modT l r.1).mul g1.2 (sg l 2 m.2)
              have A1 := (modT l r.1).mul g1.1 g1.1
              have A2 := f_sg2 (r := r.1) (mulT l r.1 g1.1 g1.1)
              have B1 := (modT l r.1).mul (mulT l r.1 g1.2 (sg l 2 m.2)) (mulT l r.1 g1.2 (sg l 2 m.2))
              have B2 := (modT l r.1).mul (mulT l r.1 (mulT l r.1 g1.2 (sg l 2 m.2)) (mulT l r.1 g1.2 (sg l 2 m.2))) x.2
              have C1 := (modT l r.1).mul g1.1 (mulT l r.1 g1.2 (sg l 2 m.2))
              have C2 := f_sg2 (r := r.1) (mulT l r.1 g1.1 (mulT l r.1 g1.2 (sg l 2 m.2)))
              rw [A1] at A2
              rw [C1, hgm, hm2] at C2
              rw [B1, hgm, hm2] at B2
              refine ⟨Q.ext ?_ ?_, fun z => ?_⟩
              · show (modT l r.1).f (sg l 2 (mulT l r.1 g1.1 g1.1)) * (modT l r.1).f (sg l 2 (mulT l r.1 g1.1 g1.1)) + (modT l r.1).f (mulT l r.1 (mulT l r.1 (mulT l r.1 g1.2 (sg l 2 m.2)) (mulT l r.1 g1.2 (sg l 2 m.2))) x.2) * (modT l r.1).f (mulT l r.1 (mulT l r.1 (mulT l r.1 g1.2 (sg l 2 m.2)) (mulT l r.1 g1.2 (sg l 2 m.2))) x.2) * (modT l r.1).f r.2
                  = (modT l r.1).f x.1 * ((modT l r.1).f (sg l 2 (mulT l r.1 g1.1 (mulT l r.1 g1.2 (sg l 2 m.2)))) * (modT l r.1).f (sg l 2 (mulT l r.1 g1.1 (mulT l r.1 g1.2 (sg l 2 m.2)))) + (modT l r.1).f (zT l) * (modT l r.1).f (zT l) * (modT l r.1).f r.2) + (modT l r.1).f x.2 * ((modT l r.1).f (sg l 2 (mulT l r.1 g1.1 (mulT l r.1 g1.2 (sg l 2 m.2)))) * (modT l r.1).f (zT l) + (modT l r.1).f (zT l) * (modT l r.1).f (sg l 2 (mulT l r.1 g1.1 (mulT l r.1 g1.2 (sg l 2 m.2))))) * (modT l r.1).f r.2
                rw [A2, B2, C2, fz]
                generalize (modT l r.1).f g1.1 = G at *
                generalize (modT l r.1).f g1.2 * ((modT l r.1).f m.2 + (modT l r.1).f m.2) = G2 at *
                rw [key]
                grind
              · show (modT l r.1).f (sg l 2 (mulT l r.1 g1.1 g1.1)) * (modT l r.1).f (mulT l r.1 (mulT l r.1 (mulT l r.1 g1.2 (sg l 2 m.2)) (mulT l r.1 g1.2 (sg l 2 m.2))) x.2) + (modT l r.1).f (mulT l r.1 (mulT l r.1 (mulT l r.1 g1.2 (sg l 2 m.2)) (mulT l r.1 g1.2 (sg l 2 m.2))) x.2) * (modT l r.1).f (sg l 2 (mulT l r.1 g1.1 g1.1))
                  = (modT l r.1).f x.1 * ((modT l r.1).f (sg l 2 (mulT l r.1 g1.1 (mulT l r.1 g1.2 (sg l 2 m.2)))) * (modT l r.1).f (zT l) + (modT l r.1).f (zT l) * (modT l r.1).f (sg l 2 (mulT l r.1 g1.1 (mulT l r.1 g1.2 (sg l 2 m.2))))) + (modT l r.1).f x.2 * ((modT l r.1).f (sg l 2 (mulT l r.1 g1.1 (mulT l r.1 g1.2 (sg l 2 m.2)))) * (modT l r.1).f (sg l 2 (mulT l r.1 g1.1 (mulT l r.1 g1.2 (sg l 2 m.2)))) + (modT l r.1).f (zT l) * (modT l r.1).f (zT l) * (modT l r.1).f r.2)
                rw [A2, B2, C2, fz]
                generalize (modT l r.1).f g1.1 = G at *
                generalize (modT l r.1).f g1.2 * ((modT l r.1).f m.2 + (modT l r.1).f m.2) = G2 at *
                clear key u1 s1
                grind
              · have e1 : (modT l r.1).f (sg l 2 (mulT l r.1 g1.1 (mulT l r.1 g1.2 (sg l 2 m.2)))) = 0 := congrArg Q.a z
                rw [C2] at e1
                exact nz_dbl tw (nz_mul nz hg1 (nz_mul nz u2 (nz_dbl tw s2))) e1
        dsimp only at h
        cases qa : signR rootIn l r x.1 x.2 m 1 with
        | some ga =>
          rw [qa] at h
          cases h
          exact sg_ok 1 1 (by grind) (fun y => by rw [f_sg1]; grind) qa
        | none =>
          rw [qa] at h
          exact sg_ok (-1) (-1) (by grind) (fun y => by rw [f_neg]; grind) h

section
variable {R : Type} [CommRing R] {d : R}
theorem eq_of_sub {x y : R} (h : x - y = 0) : x = y := by grind
/-- two signs -/
theorem two_signs (nz : NZD R) {x y : R} (h : x * x = y * y) : x = y ∨ x = -y := by
  rcases nz (x - y) (x + y) (by grind) with q | q
  · exact .inl (by grind)
  · exact .inr (by grind)
/-- a root by a number without the root of d -/
theorem down (nz : NZD R) (ns : NS R d) (h1 : (1 : R) ≠ 0) {x t u : Q R d} (h : t * t = x * (u * u)) (hu : u ≠ 0) :
    ∃ p q N : R, N ≠ 0 ∧ p * p + q * q * d = x.a * (N * N) ∧ p * q + q * p = x.b * (N * N) := by
  have ha : t.a * t.a + t.b * t.b * d = x.a * (u.a * u.a + u.b * u.b * d) + x.b * (u.a * u.b + u.b * u.a) * d := congrArg Q.a h
  have hb : t.a * t.b + t.b * t.a = x.a * (u.a * u.b + u.b * u.a) + x.b * (u.a * u.a + u.b * u.b * d) := congrArg Q.b h
  refine ⟨t.a * u.a - t.b * u.b * d, t.b * u.a - t.a * u.b, u.a * u.a - u.b * u.b * d, fun e => ?_, ?_, ?_⟩
  · obtain ⟨q1, q2⟩ := ns u.a u.b (by grind)
    exact hu (Q.ext q1 q2)
  · generalize t.a = ta at *
    generalize t.b = tb at *
    generalize u.a = ua at *
    generalize u.b = ub at *
    generalize x.a = xa at *
    generalize x.b = xb at *
    have k : (ta * ua - tb * ub * d) * (ta * ua - tb * ub * d) + (tb * ua - ta * ub) * (tb * ua - ta * ub) * d = (ta * ta + tb * tb * d) * (ua * ua + ub * ub * d) - (ta * tb + tb * ta) * (ua * ub + ub * ua) * d := by grind
    rw [k, ha, hb]
    grind
  · generalize t.a = ta at *
    generalize t.b = tb at *
    generalize u.a = ua at *
    generalize u.b = ub at *
    generalize x.a = xa at *
    generalize x.b = xb at *
    have k : (ta * ua - tb * ub * d) * (tb * ua - ta * ub) + (tb * ua - ta * ub) * (ta * ua - tb * ub * d) = (ta * tb + tb * ta) * (ua * ua + ub * ub * d) - (ta * ta + tb * tb * d) * (ua * ub + ub * ua) := by grind
    rw [k, ha, hb]
    grind
theorem norm_sq {a b p q N : R} (h1 : p * p + q * q * d = a * (N * N)) (h2 : p * q + q * p = b * (N * N)) :
    (p * p - q * q * d) * (p * p - q * q * d) = (a * a - b * b * d) * (N * N * (N * N)) := by
  have k : (p * p - q * q * d) * (p * p - q * q * d) = (p * p + q * q * d) * (p * p + q * q * d) - (p * q + q * p) * (p * q + q * p) * d := by grind
  rw [k, h1, h2]
  grind
theorem half_sq {a p q N m1 m2 e : R} (h1 : p * p + q * q * d = a * (N * N)) (hs : (p * p - q * q * d) * m2 = e * m1 * (N * N)) :
    ((p + p) * m2) * ((p + p) * m2) = ((a * m2 + e * m1) * (m2 + m2)) * (N * N) := by
  have k : ((a * m2 + e * m1) * (m2 + m2)) * (N * N) = (a * (N * N) * m2 + e * m1 * (N * N)) * (m2 + m2) := by grind
  rw [k, ← h1, ← hs]
  grind
end
theorem full_succ {l : Nat} {r : Rt (l + 1)} (c : Chain (l + 1) r) (so : Sound l r.1) (ih : Full l r.1) : Full (l + 1) r := by
  letI i1 := (modT l r.1).inst
  letI i2 := (modT (l + 1) r).inst
  have nz := chain_nzd c.1
  have tw := chain_tw (r := r.1)
  have h1 := one_ne (r := r.1)
  have hd := d_ne c.2 h1
  intro x t u h hu
  rw [rootIn_succ]
  by_cases h0 : zB (l + 1) x = true
  · rw [if_pos h0]; simp
  rw [if_neg h0]
  obtain ⟨p, q, N, hN, ha, hb⟩ := down (x := (modT (l + 1) r).f x) nz c.2 h1 h hu
  have ha : p * p + q * q * (modT l r.1).f r.2 = (modT l r.1).f x.1 * (N * N) := ha
  have hb : p * q + q * p = (modT l r.1).f x.2 * (N * N) := hb
  by_cases h2 : zB l x.2 = true
  · rw [if_pos h2]
    have eb := (f_zero (r := r.1) x.2).mpr h2
    rw [eb, zero_mul'] at hb
    have e2 : p * q = 0 := tw _ (by grind)
    unfold flatR
    rcases nz _ _ e2 with z | z
    · rw [z] at ha
      have := ih (mulT l r.1 x.1 r.2) (q * (modT l r.1).f r.2) N (by rw [(modT l r.1).mul]; grind) hN
      cases q1 : rootIn l r.1 x.1 with
      | some g => simp
      | none =>
        cases q2 : rootIn l r.1 (mulT l r.1 x.1 r.2) with
        | none => exact absurd q2 this
        | some g => simp
    · rw [z] at ha
      have := ih x.1 p N (by grind) hN
      cases q1 : rootIn l r.1 x.1 with
      | some g => simp
      | none => exact absurd q1 this
  · rw [if_neg h2]
    have nb : (modT l r.1).f x.2 ≠ 0 := fun z => h2 ((f_zero _).mp z)
    have hp : p ≠ 0 := fun z => nz_mul nz nb (nz_mul nz hN hN) (by rw [← hb, z]; grind)
    unfold mixR
    have hn := norm_sq ha hb
    have n1 := ih (subT l (mulT l r.1 x.1 x.1) (mulT l r.1 (mulT l r.1 x.2 x.2) r.2)) (p * p - q * q * (modT l r.1).f r.2) (N * N) (by rw [f_sub, (modT l r.1).mul, (modT l r.1).mul, (modT l r.1).mul]; exact hn) (nz_mul nz hN hN)
    cases qm : rootIn l r.1 (subT l (mulT l r.1 x.1 x.1) (mulT l r.1 (mulT l r.1 x.2 x.2) r.2)) with
    | none => exact absurd qm n1
    | some m =>
      obtain ⟨s1, s2⟩ := so _ m qm
      rw [f_sub, (modT l r.1).mul, (modT l r.1).mul, (modT l r.1).mul] at s1
      have sg_ok : ∀ (s : Int) (e : (modT l r.1).S), (∀ y, (modT l r.1).f (sg l s y) = e * (modT l r.1).f y) → (p * p - q * q * (modT l r.1).f r.2) * (modT l r.1).f m.2 = e * (modT l r.1).f m.1 * (N * N) → signR rootIn l r x.1 x.2 m s ≠ none := by
        intro s e hs hh
        have hq := half_sq ha hh
        have ft : (modT l r.1).f (mulT l r.1 (addT l (mulT l r.1 x.1 m.2) (sg l s m.1)) (sg l 2 m.2)) = ((modT l r.1).f x.1 * (modT l r.1).f m.2 + e * (modT l r.1).f m.1) * ((modT l r.1).f m.2 + (modT l r.1).f m.2) := by
          rw [(modT l r.1).mul, (modT l r.1).add, (modT l r.1).mul, hs, f_sg2]
        have n2 := ih _ ((p + p) * (modT l r.1).f m.2) N (by rw [ft]; exact hq) hN
        unfold signR
        cases q3 : rootIn l r.1 (mulT l r.1 (addT l (mulT l r.1 x.1 m.2) (sg l s m.1)) (sg l 2 m.2)) with
        | none => exact absurd q3 n2
        | some g =>
          dsimp only
          obtain ⟨u1, u2⟩ := so _ g q3
          by_cases hz : zB l g.1 = true
          · exfalso
            have z := (f_zero (r := r.1) _).mpr hz
            rw [z, zero_mul', ft] at u1
            have hpp : ((p + p) * (modT l r.1).f m.2) * ((p + p) * (modT l r.1).f m.2) ≠ 0 := nz_mul nz (nz_mul nz (nz_dbl tw hp) s2) (nz_mul nz (nz_dbl tw hp) s2)
            rcases nz _ _ u1.symm with w | w
            · exact hpp (by rw [hq, w, zero_mul'])
            · exact nz_mul nz u2 u2 w
          · rw [if_neg hz]; simp
      dsimp only
      have key : ((p * p - q * q * (modT l r.1).f r.2) * (modT l r.1).f m.2) * ((p * p - q * q * (modT l r.1).f r.2) * (modT l r.1).f m.2) = ((modT l r.1).f m.1 * (N * N)) * ((modT l r.1).f m.1 * (N * N)) := by
        have k : ((p * p - q * q * (modT l r.1).f r.2) * (modT l r.1).f m.2) * ((p * p - q * q * (modT l r.1).f r.2) * (modT l r.1).f m.2) = (p * p - q * q * (modT l r.1).f r.2) * (p * p - q * q * (modT l r.1).f r.2) * ((modT l r.1).f m.2 * (modT l r.1).f m.2) := by grind
        have k2 : ((modT l r.1).f m.1 * (N * N)) * ((modT l r.1).f m.1 * (N * N)) = (modT l r.1).f m.1 * (modT l r.1).f m.1 * (N * N * (N * N)) := by grind
        rw [k, k2, hn, s1]
        grind
      cases qa : signR rootIn l r x.1 x.2 m 1 with
      | some ga => simp
      | none =>
        rcases two_signs nz key with w | w
        · exact absurd qa (sg_ok 1 1 (fun y => by rw [f_sg1]; grind) (by rw [w]; grind))
        · exact sg_ok (-1) (-1) (fun y => by rw [f_neg]; grind) (by rw [w]; grind)
theorem sound_all : ∀ {l : Nat} {r : Rt l}, Chain l r → Sound l r
  | 0, r, _ => fun x g h => by
    have e : rootIn 0 r x = (rootO x).map fun i => (i, (1 : Int)) := by unfold rootIn; rfl
    rw [e] at h
    obtain ⟨i, hi, rfl⟩ := Option.map_eq_some_iff.mp h
    refine ⟨?_, by show (1 : Int) ≠ 0; decide⟩
    exact (by intro y; rw [Int.mul_one, Int.mul_one]; exact id : ∀ y : Int, i * i = y → i * i = y * ((1 : Int) * 1)) x (rootO_sound hi)
  | l + 1, r, c => sound_succ c (sound_all c.1)
theorem full_all : ∀ {l : Nat} {r : Rt l}, Chain l r → Full l r
  | 0, r, _ => fun x t u h hu => by
    have e : rootIn 0 r x = (rootO x).map fun i => (i, (1 : Int)) := by unfold rootIn; rfl
    rw [e]
    have := rootO_complete (n := x) (t := t) (u := u) hu h
    cases q : rootO x with
    | none => exact absurd q this
    | some i => exact Option.some_ne_none _
  | l + 1, r, c => full_succ c (sound_all c.1) (full_all c.1)

theorem told_bd {l : Nat} (hl : l ≤ 2) {r : Rt l} {x : T l} {g : T l × T l} (hr : RB l r) (hx : Bd l (capP l) x) (h : rootIn l r x = some g) : Bd l 72700 g.1 ∧ Bd l 72700 g.2 := by
  obtain rfl | rfl | rfl : l = 0 ∨ l = 1 ∨ l = 2 := by omega
  · have b := rootIn_bd0 hx h
    exact ⟨b.1.mono (by decide), b.2.mono (by decide)⟩
  · have b := rootIn_bd1 hr hx h
    exact ⟨b.1.mono (by decide), b.2.mono (by decide)⟩
  · exact parts_bd (l := 1) (p := 31) (c := 4) (m := 1150) (t := 35155) (q := 72700) (by decide) hr hx h
      (fun y g hy e => let b := rootIn_bd1 (p := 74) hr.1 (hy.mono (by decide)) e; ⟨b.1.mono (by decide), b.2.mono (by decide)⟩)
      (fun y g hy e => let b := rootIn_bd1 (p := 74) hr.1 (hy.mono (by decide)) e; ⟨b.1.mono (by decide), b.2.mono (by decide)⟩)
      (fun y g hy e => let b := rootIn_bd1 (p := 2341) hr.1 (hy.mono (by decide)) e; ⟨b.1.mono (by decide), b.2.mono (by decide)⟩)
      (by decide) (by decide) (by decide) (by decide) (by decide) (by decide)
end M21


set_option maxRecDepth 100000
set_option maxHeartbeats 2000000
/-! O22: what k22's law asks of the roots, in plain Lean. Own work. -/
namespace M21
open DL Lean.Grind
section
variable {l : Nat} {r : Rt l}
theorem mT_eq {x y : T l} (h : (modT l r).f x = (modT l r).f y) : x = y := (modT l r).inj _ _ h
/-- the square of what is told is the number -/
theorem root_ok (c : Chain l r) {x : T l} {g : T l × T l} (h : rootIn l r x = some g) : zB l g.2 = false ∧ mulT l r g.1 g.1 = mulT l r x (mulT l r g.2 g.2) := by
  letI := (modT l r).inst
  obtain ⟨h1, h2⟩ := sound_all c x g h
  refine ⟨?_, (modT l r).inj _ _ ?_⟩
  · cases e : zB l g.2 with
    | false => rfl
    | true => exact absurd ((f_zero _).mpr e) h2
  · rw [(modT l r).mul, (modT l r).mul, (modT l r).mul]
    exact h1
/-- a square has a root -/
theorem told_ok (c : Chain l r) (a : T l) : rootIn l r (mulT l r a a) ≠ none := by
  letI := (modT l r).inst
  refine full_all c _ ((modT l r).f a) 1 ?_ one_ne
  rw [(modT l r).mul]
  grind
/-- a number has a root if its product with a square has one -/
theorem near_iff (c : Chain l r) {a : T l} (ha : a ≠ zT l) (b : T l) : rootIn l r (mulT l r (mulT l r a a) b) = none ↔ rootIn l r b = none := by
  letI := (modT l r).inst
  have nz := chain_nzd c
  have fa : (modT l r).f a ≠ 0 := fun e => ha ((zB_iff l a).mp ((f_zero _).mp e))
  constructor
  · intro h
    cases e : rootIn l r b with
    | none => rfl
    | some g =>
      obtain ⟨h1, h2⟩ := sound_all c b g e
      refine absurd h (full_all c _ ((modT l r).f a * (modT l r).f g.1) ((modT l r).f g.2) ?_ h2)
      rw [(modT l r).mul, (modT l r).mul]
      grind
  · intro h
    cases e : rootIn l r (mulT l r (mulT l r a a) b) with
    | none => rfl
    | some g =>
      obtain ⟨h1, h2⟩ := sound_all c _ g e
      refine absurd h (full_all c _ ((modT l r).f g.1) ((modT l r).f a * (modT l r).f g.2) ?_ (nz_mul nz fa h2))
      rw [(modT l r).mul, (modT l r).mul] at h1
      grind
end
end M21


set_option maxRecDepth 100000
set_option maxHeartbeats 2000000

namespace L22
open PySem PySem.Spec PyProof.Rows L2 DL
def topS (i : Nat) : Stmt := PySem.Challenge.pw_drawproofs_k22_whole_roots_with_roots.main.body.getD i (.Pass ⟨0, 0, 0, 0⟩)
abbrev s_is_whole : Stmt := topS 8
theorem sc_is_whole : FnScope ["value"] ["value"] (defScope s_is_whole) := ⟨rfl, rfl, rfl, by decide +kernel, rfl, by decide +kernel, by decide +kernel⟩
abbrev s_in_tuples : Stmt := topS 9
theorem sc_in_tuples : FnScope ["value", "item"] ["value"] (defScope s_in_tuples) := ⟨rfl, rfl, rfl, by decide +kernel, rfl, by decide +kernel, by decide +kernel⟩
abbrev s_is_tuple_of : Stmt := topS 10
theorem sc_is_tuple_of : FnScope ["value", "many"] ["value", "many"] (defScope s_is_tuple_of) := ⟨rfl, rfl, rfl, by decide +kernel, rfl, by decide +kernel, by decide +kernel⟩
abbrev s_whole_root : Stmt := topS 12
theorem sc_whole_root : FnScope ["number", "low", "high", "middle"] ["number"] (defScope s_whole_root) := ⟨rfl, rfl, rfl, by decide +kernel, rfl, by decide +kernel, by decide +kernel⟩
abbrev s_is_plain : Stmt := topS 15
theorem sc_is_plain : FnScope ["level", "value", "waiting", "height", "here"] ["level", "value"] (defScope s_is_plain) := ⟨rfl, rfl, rfl, by decide +kernel, rfl, by decide +kernel, by decide +kernel⟩
abbrev s_flat_numbers : Stmt := topS 16
theorem sc_flat_numbers : FnScope ["level", "number", "row", "lap", "more", "one"] ["level", "number"] (defScope s_flat_numbers) := ⟨rfl, rfl, rfl, by decide +kernel, rfl, by decide +kernel, by decide +kernel⟩
abbrev s_built : Stmt := topS 17
theorem sc_built : FnScope ["level", "row", "some", "lap", "k"] ["level", "row"] (defScope s_built) := ⟨rfl, rfl, rfl, by decide +kernel, rfl, by decide +kernel, by decide +kernel⟩
abbrev s_plain_integer : Stmt := topS 18
theorem sc_plain_integer : FnScope ["level", "number"] ["level", "number"] (defScope s_plain_integer) := ⟨rfl, rfl, rfl, by decide +kernel, rfl, by decide +kernel, by decide +kernel⟩
abbrev s_lift_plain : Stmt := topS 19
theorem sc_lift_plain : FnScope ["low", "high", "number", "out", "level"] ["low", "high", "number"] (defScope s_lift_plain) := ⟨rfl, rfl, rfl, by decide +kernel, rfl, by decide +kernel, by decide +kernel⟩
abbrev s_sum_plain : Stmt := topS 20
theorem sc_sum_plain : FnScope ["level", "one", "other", "first", "second", "a", "b"] ["level", "one", "other"] (defScope s_sum_plain) := ⟨rfl, rfl, rfl, by decide +kernel, rfl, by decide +kernel, by decide +kernel⟩
abbrev s_times_int : Stmt := topS 21
theorem sc_times_int : FnScope ["level", "one", "number", "item"] ["level", "one", "number"] (defScope s_times_int) := ⟨rfl, rfl, rfl, by decide +kernel, rfl, by decide +kernel, by decide +kernel⟩
abbrev s_less_plain : Stmt := topS 22
theorem sc_less_plain : FnScope ["level", "one", "other"] ["level", "one", "other"] (defScope s_less_plain) := ⟨rfl, rfl, rfl, by decide +kernel, rfl, by decide +kernel, by decide +kernel⟩
abbrev s_product_plain : Stmt := topS 23
theorem sc_product_plain : FnScope ["roots", "one", "other", "level", "low", "d", "both", "first"] ["roots", "one", "other"] (defScope s_product_plain) := ⟨rfl, rfl, rfl, by decide +kernel, rfl, by decide +kernel, by decide +kernel⟩
abbrev s_zero_plain : Stmt := topS 24
theorem sc_zero_plain : FnScope ["level", "number", "item"] ["level", "number"] (defScope s_zero_plain) := ⟨rfl, rfl, rfl, by decide +kernel, rfl, by decide +kernel, by decide +kernel⟩
abbrev s_root_in : Stmt := topS 25
theorem sc_root_in : FnScope ["roots", "number", "level", "found"] ["roots", "number"] (defScope s_root_in) := ⟨rfl, rfl, rfl, by decide +kernel, rfl, by decide +kernel, by decide +kernel⟩
abbrev s_flat_root : Stmt := topS 26
theorem sc_flat_root : FnScope ["roots", "number", "low", "d", "level", "found"] ["roots", "number"] (defScope s_flat_root) := ⟨rfl, rfl, rfl, by decide +kernel, rfl, by decide +kernel, by decide +kernel⟩
abbrev s_mixed_root : Stmt := topS 27
theorem sc_mixed_root : FnScope ["roots", "number", "low", "d", "level", "a", "b", "square", "norm", "sign", "top", "bottom", "found", "s", "t", "first", "second", "under"] ["roots", "number"] (defScope s_mixed_root) := ⟨rfl, rfl, rfl, by decide +kernel, rfl, by decide +kernel, by decide +kernel⟩
abbrev s_roots_from : Stmt := topS 28
theorem sc_roots_from : FnScope ["roots", "made", "level"] ["roots"] (defScope s_roots_from) := ⟨rfl, rfl, rfl, by decide +kernel, rfl, by decide +kernel, by decide +kernel⟩
abbrev s_plain_from : Stmt := topS 29
theorem sc_plain_from : FnScope ["level", "number", "made"] ["level", "number"] (defScope s_plain_from) := ⟨rfl, rfl, rfl, by decide +kernel, rfl, by decide +kernel, by decide +kernel⟩
abbrev s_grid_product : Stmt := topS 30
theorem sc_grid_product : FnScope ["roots", "one", "other", "made", "first"] ["roots", "one", "other"] (defScope s_grid_product) := ⟨rfl, rfl, rfl, by decide +kernel, rfl, by decide +kernel, by decide +kernel⟩
abbrev s_grid_root : Stmt := topS 31
theorem sc_grid_root : FnScope ["roots", "number", "made"] ["roots", "number"] (defScope s_grid_root) := ⟨rfl, rfl, rfl, by decide +kernel, rfl, by decide +kernel, by decide +kernel⟩
abbrev s_is_grid_root : Stmt := topS 32
theorem sc_is_grid_root : FnScope ["roots", "number", "value", "made", "some", "level", "square"] ["roots", "number", "value"] (defScope s_is_grid_root) := ⟨rfl, rfl, rfl, by decide +kernel, rfl, by decide +kernel, by decide +kernel⟩
abbrev s__law_pen : Stmt := topS 34
theorem sc__law_pen : FnScope ["script", "fold", "cell"] ["script"] (defScope s__law_pen) := ⟨rfl, rfl, rfl, by decide +kernel, rfl, by decide +kernel, by decide +kernel⟩
abbrev s__law_draw : Stmt := topS 35
theorem sc__law_draw : FnScope ["pen", "many", "cell", "digit", "blend"] ["pen", "many"] (defScope s__law_draw) := ⟨rfl, rfl, rfl, by decide +kernel, rfl, by decide +kernel, by decide +kernel⟩
abbrev s__law_pick : Stmt := topS 36
theorem sc__law_pick : FnScope ["pen", "some"] ["pen", "some"] (defScope s__law_pick) := ⟨rfl, rfl, rfl, by decide +kernel, rfl, by decide +kernel, by decide +kernel⟩
abbrev s__law_is_int : Stmt := topS 37
theorem sc__law_is_int : FnScope ["thing"] ["thing"] (defScope s__law_is_int) := ⟨rfl, rfl, rfl, by decide +kernel, rfl, by decide +kernel, by decide +kernel⟩
abbrev s__law_gcd : Stmt := topS 38
theorem sc__law_gcd : FnScope ["one", "two", "lap"] ["one", "two"] (defScope s__law_gcd) := ⟨rfl, rfl, rfl, by decide +kernel, rfl, by decide +kernel, by decide +kernel⟩
abbrev s__law_q : Stmt := topS 39
theorem sc__law_q : FnScope ["top", "bottom", "by"] ["top", "bottom"] (defScope s__law_q) := ⟨rfl, rfl, rfl, by decide +kernel, rfl, by decide +kernel, by decide +kernel⟩
abbrev s__law_root : Stmt := topS 40
theorem sc__law_root : FnScope ["ratio", "found", "number", "low", "high", "middle"] ["ratio"] (defScope s__law_root) := ⟨rfl, rfl, rfl, by decide +kernel, rfl, by decide +kernel, by decide +kernel⟩
abbrev s__law_fault : Stmt := topS 41
theorem sc__law_fault : FnScope ["work", "fault"] ["work"] (defScope s__law_fault) := ⟨rfl, rfl, rfl, by decide +kernel, rfl, by decide +kernel, by decide +kernel⟩
abbrev s__law_are_due : Stmt := topS 42
theorem sc__law_are_due : FnScope ["tries", "work", "due"] ["tries"] (defScope s__law_are_due) := ⟨rfl, rfl, rfl, by decide +kernel, rfl, by decide +kernel, by decide +kernel⟩
abbrev s__law_says : Stmt := topS 43
theorem sc__law_says : FnScope ["told", "due"] ["told", "due"] (defScope s__law_says) := ⟨rfl, rfl, rfl, by decide +kernel, rfl, by decide +kernel, by decide +kernel⟩
abbrev s__law_lists : Stmt := topS 44
theorem sc__law_lists : FnScope ["thing", "item"] ["thing"] (defScope s__law_lists) := ⟨rfl, rfl, rfl, by decide +kernel, rfl, by decide +kernel, by decide +kernel⟩
abbrev s__law_either : Stmt := topS 45
theorem sc__law_either : FnScope ["pen", "thing"] ["pen", "thing"] (defScope s__law_either) := ⟨rfl, rfl, rfl, by decide +kernel, rfl, by decide +kernel, by decide +kernel⟩
abbrev s__law_drawn : Stmt := topS 46
theorem sc__law_drawn : FnScope ["pen", "level", "most"] ["pen", "level", "most"] (defScope s__law_drawn) := ⟨rfl, rfl, rfl, by decide +kernel, rfl, by decide +kernel, by decide +kernel⟩
abbrev s__law_zero_of : Stmt := topS 47
theorem sc__law_zero_of : FnScope ["level"] ["level"] (defScope s__law_zero_of) := ⟨rfl, rfl, rfl, by decide +kernel, rfl, by decide +kernel, by decide +kernel⟩
abbrev s__law_is_number : Stmt := topS 48
theorem sc__law_is_number : FnScope ["level", "value", "waiting", "lap", "high", "here"] ["level", "value"] (defScope s__law_is_number) := ⟨rfl, rfl, rfl, by decide +kernel, rfl, by decide +kernel, by decide +kernel⟩
abbrev s__law_due : Stmt := topS 49
theorem sc__law_due : FnScope ["roots", "number", "value", "none", "level"] ["roots", "number", "value", "none"] (defScope s__law_due) := ⟨rfl, rfl, rfl, by decide +kernel, rfl, by decide +kernel, by decide +kernel⟩
abbrev s_law : Stmt := topS 50
theorem sc_law : FnScope ["script", "pen", "lap", "roots", "level", "a", "b", "whole", "zero", "told", "near", "found", "some", "number", "right", "none", "values", "c", "value", "bad", "wrong", "work", "tries"] ["script"] (defScope s_law) := ⟨rfl, rfl, rfl, by decide +kernel, rfl, by decide +kernel, by decide +kernel⟩
abbrev fs_BadNumber : List Str := ["what", "number"]
abbrev it_BadNumber : List FIt := [("number", false), ("what", true), ("number", true)]
abbrev fs_BadPoly : List Str := ["value"]
abbrev it_BadPoly : List FIt := [("poly", false), ("value", true)]
abbrev fs_BadRow : List Str := ["row"]
abbrev it_BadRow : List FIt := [("row", false), ("row", true)]
abbrev fs_TooMany : List Str := ["what", "many", "limit"]
abbrev it_TooMany : List FIt := [("many", false), ("what", true), ("many", true), ("limit", true)]
abbrev fs_Unlike : List Str := ["what"]
abbrev it_Unlike : List FIt := [("unlike", false), ("what", true)]
open M21
abbrev TK (_ : Unit) : Type := Tok
def wholeB : D → Bool
  | .int _ => true
  | _ => false
theorem ifT {p : Prop} [Decidable p] {a b : Prop} (hp : p) (h : a) : if p then a else b := by rw [if_pos hp]; exact h
theorem ifF {p : Prop} [Decidable p] {a b : Prop} (hp : ¬ p) (h : b) : if p then a else b := by rw [if_neg hp]; exact h
theorem seq_split {A R : TDS} {E : DEnds} {ρ : Env'} {n : Nat} (I : Env' → Nat → Prop) (h2 : ∀ ρ' n', I ρ' n' → R E ρ' n') (h1 : ∀ nx : Env' → Nat → Prop, (∀ ρ' n', I ρ' n' → nx ρ' n') → A { E with nx := nx } ρ n) : dSeq A R E ρ n := h1 _ h2
def w_is_whole : List D → Wm D
  | [d] => fun K _ n => baseD d = true ∧ K (.bl (wholeB d)) n
  | _ => Wm.fail
def w_in_tuples (j : Nat) : List D → Wm D
  | [d] => fun K _ n => okDp j d = true ∧ K (tupled d) n
  | _ => Wm.fail
/-- a tuple of so many -/
def tupLen : D → Int → Bool
  | .tup ds, k => decide ((ds.length : Int) = k)
  | _, _ => false
def w_is_tuple_of : List D → Wm D
  | [d, .int k] => fun K _ n => baseD d = true ∧ K (.bl (tupLen d k)) n
  | _ => Wm.fail
def optI : Option Int → D
  | some i => .int i
  | none => .non
def w_whole_root : List D → Wm D
  | [.int i] => fun K _ n => i.natAbs < 2 ^ 100000 ∧ K (optI (rootO i)) n
  | _ => Wm.fail
def twoT : D → Option (D × D)
  | .tup [a, b] => some (a, b)
  | _ => none
def isPl : Nat → D → Bool
  | 0, d => wholeB d
  | l + 1, d => match twoT d with
    | some p => isPl l p.1 && isPl l p.2
    | none => false
theorem isPl_two {l : Nat} {x y : D} : isPl (l + 1) (.tup [x, y]) = (isPl l x && isPl l y) := rfl
def w_is_plain : List D → Wm D := fun ds K _ n => ∃ (l : Nat) (d : D), ds = [.int l, d] ∧ (l ≤ 3 ∧ okDp 6 d = true) ∧ K (.bl (isPl l d)) n
def inL (xs : List Int) : List D := xs.map .int
def w_flat_numbers : List D → Wm D := fun ds K _ n => ∃ (l : Nat) (x : T l), ds = [.int l, dT l x] ∧ l ≤ 3 ∧ K (.lst (inL (flT l x))) n
def w_built : List D → Wm D := fun ds K _ n => ∃ (l : Nat) (x : T l), ds = [.int l, .lst (inL (flT l x))] ∧ l ≤ 3 ∧ K (dT l x) n
def w_plain_integer : List D → Wm D := fun ds K _ n => ∃ (l : Nat) (i : Int), ds = [.int l, .int i] ∧ l ≤ 3 ∧ K (dT l (pT l i)) n
def w_lift_plain : List D → Wm D := fun ds K _ n => ∃ (l : Nat) (x : T l), ds = [.int l, .int ((l + 1 : Nat) : Int), dT l x] ∧ l ≤ 2 ∧ K (dT (l + 1) (x, zT l)) n
def w_sum_plain : List D → Wm D := fun ds K _ n => ∃ (l : Nat) (x y : T l), ds = [.int l, dT l x, dT l y] ∧ l ≤ 3 ∧ K (dT l (addT l x y)) n
def w_times_int : List D → Wm D := fun ds K _ n => ∃ (l : Nat) (x : T l) (k : Int) (p : Nat), ds = [.int l, dT l x, .int k] ∧ (l ≤ 3 ∧ Bd l p x ∧ p ≤ 400000 ∧ k.natAbs ≤ 4) ∧ K (dT l (sg l k x)) n
def w_less_plain : List D → Wm D := fun ds K _ n => ∃ (l : Nat) (x y : T l) (p : Nat), ds = [.int l, dT l x, dT l y] ∧ (l ≤ 3 ∧ Bd l p y ∧ p ≤ 400000) ∧ K (dT l (subT l x y)) n
/-- the roots as a tuple -/
def rD (l : Nat) (r : Rt l) : D := .tup (rL l r)
def w_product_plain (j : Nat) : List D → Wm D := fun ds K _ n => ∃ (l : Nat) (r : Rt l) (x y : T l) (p q : Nat), ds = [rD l r, dT l x, dT l y] ∧ (l < j ∧ l ≤ 3 ∧ RB l r ∧ Bd l p x ∧ Bd l q y ∧ p + q + cc l ≤ 400000) ∧ K (dT l (mulT l r x y)) n
def w_zero_plain : List D → Wm D := fun ds K _ n => ∃ (l : Nat) (x : T l), ds = [.int l, dT l x] ∧ l ≤ 3 ∧ K (.bl (zB l x)) n
theorem isPl_T : ∀ (l : Nat) (x : T l), isPl l (dT l x) = true
  | 0, x => rfl
  | l + 1, x => by
    rw [dT_succ, isPl_two, isPl_T l, isPl_T l]
    rfl
theorem capP3 (l : Nat) : 3 ≤ capP l := by
  match l with
  | 0 => decide
  | 1 => decide
  | _ + 2 => show 3 ≤ 31; decide
theorem cc3 {l : Nat} (h : l ≤ 3) : cc l ≤ 28 := by
  obtain rfl | rfl | rfl | rfl : l = 0 ∨ l = 1 ∨ l = 2 ∨ l = 3 := by omega
  all_goals decide
theorem eqv_int {i j : Int} : PyData.eqv (.int i) (.int j) = decide (i = j) := by
  rw [Bool.eq_iff_iff]
  simp [PyData.eqv]
theorem eqv_str {i j : Str} : PyData.eqv (.str i) (.str j) = decide (i = j) := by
  rw [Bool.eq_iff_iff]
  simp [PyData.eqv]
theorem eqv_bool {i j : Bool} : PyData.eqv (.bool i) (.bool j) = decide (i = j) := by
  rw [Bool.eq_iff_iff]
  simp [PyData.eqv]
theorem scl_eqD {d e : D} {c : Bool} (h : sclE d e = some c) : eqD d e = c := by
  unfold sclE at h
  split at h
  · cases h; unfold eqD pyD; exact eqv_int
  · cases h; unfold eqD pyD; exact eqv_str
  · cases h; unfold eqD pyD; exact eqv_bool
  · cases h; unfold eqD pyD; rfl
  · cases h
theorem fEq_data {d e : D} {K : D → Nat → Prop} {X : XD → Nat → Prop} {n : Nat} (h1 : EqOk d) (h2 : EqOk e) (h : K (.bl (eqD d e)) n) : fEqA d e K X n := by
  unfold fEqA
  cases q : sclE d e with
  | some c => rw [scl_eqD q] at h; exact h
  | none => exact ⟨⟨h1, h2⟩, h⟩
theorem fNe_data {d e : D} {K : D → Nat → Prop} {X : XD → Nat → Prop} {n : Nat} (h1 : EqOk d) (h2 : EqOk e) (h : K (.bl (!eqD d e)) n) : fNeA d e K X n := by
  unfold fNeA
  cases q : sclE d e with
  | some c => rw [scl_eqD q] at h; exact h
  | none => exact ⟨⟨h1, h2⟩, h⟩
theorem fNe_bl {a : Bool} {K : D → Nat → Prop} {X : XD → Nat → Prop} {n : Nat} (h : K (.bl false) n) : fNeA (.bl a) (.bl a) K X n := by
  show K (.bl (!decide (a = a))) n
  rw [decide_eq_true rfl]
  exact h
theorem eqOk_nil : EqOk (.tup []) := ⟨rfl, by decide +kernel⟩
theorem eqOk_T : ∀ (l : Nat) (x : T l), l ≤ 60 → EqOk (dT l x) ∧ (pyD (dT l x)).canLay0 = true ∧ (pyD (dT l x)).depth ≤ l
  | 0, x, _ => ⟨⟨rfl, by unfold SeqAt.shaped dT pyD; rfl⟩, by unfold dT pyD; rfl, by unfold dT pyD; exact Nat.le_refl _⟩
  | l + 1, x, h => by
    obtain ⟨⟨a1, _⟩, a2, a3⟩ := eqOk_T l x.1 (by omega)
    obtain ⟨⟨b1, _⟩, b2, b3⟩ := eqOk_T l x.2 (by omega)
    have c : (pyD (dT (l + 1) x)).canLay0 = true := by rw [dT_succ]; simp [pyD, pyL, PyData.canLay0, PyData.canLayAll0, a2, b2]
    have d : (pyD (dT (l + 1) x)).depth ≤ l + 1 := by rw [dT_succ]; simp [pyD, pyL, PyData.depth, PyData.depthAll]; omega
    refine ⟨⟨by rw [dT_succ]; simp [flatD, flatL, a1, b1], ?_⟩, c, d⟩
    unfold SeqAt.shaped
    rw [c, decide_eq_true (show (pyD (dT (l + 1) x)).depth ≤ 64 by omega)]
    rfl
theorem eqOk_rL : ∀ {l : Nat} (h : l ≤ 3) (r : Rt l), EqOk (.tup (rL l r)) := by
  have key : ∀ (l : Nat) (r : Rt l), l ≤ 3 → flatL (rL l r) = true ∧ PyData.canLayAll0 (pyL (rL l r)) = true ∧ PyData.depthAll (pyL (rL l r)) ≤ 3 := by
    intro l r h
    obtain rfl | rfl | rfl | rfl : l = 0 ∨ l = 1 ∨ l = 2 ∨ l = 3 := by omega
    · exact ⟨rfl, rfl, by simp [rL, pyL, PyData.depthAll]⟩
    · obtain ⟨⟨a1, _⟩, a2, a3⟩ := eqOk_T 0 r.2 (by decide)
      refine ⟨?_, ?_, ?_⟩ <;> simp [rL, flatL, pyL, PyData.canLayAll0, PyData.depthAll, a1, a2]
      omega
    · obtain ⟨⟨a1, _⟩, a2, a3⟩ := eqOk_T 0 r.1.2 (by decide)
      obtain ⟨⟨b1, _⟩, b2, b3⟩ := eqOk_T 1 r.2 (by decide)
      refine ⟨?_, ?_, ?_⟩ <;> simp [rL, flatL, pyL, PyData.canLayAll0, PyData.depthAll, a1, a2, b1, b2]
      omega
    · obtain ⟨⟨a1, _⟩, a2, a3⟩ := eqOk_T 0 r.1.1.2 (by decide)
      obtain ⟨⟨b1, _⟩, b2, b3⟩ := eqOk_T 1 r.1.2 (by decide)
      obtain ⟨⟨c1, _⟩, c2, c3⟩ := eqOk_T 2 r.2 (by decide)
      refine ⟨?_, ?_, ?_⟩ <;> simp [rL, flatL, pyL, PyData.canLayAll0, PyData.depthAll, a1, a2, b1, b2, c1, c2]
      omega
  intro l h r
  obtain ⟨h1, h2, h3⟩ := key l r h
  refine ⟨by unfold flatD; exact h1, ?_⟩
  unfold SeqAt.shaped pyD
  have hd : (PyData.tuple (pyL (rL l r))).depth ≤ 64 := by simp [PyData.depth]; omega
  rw [decide_eq_true hd, Bool.and_true]
  simp [PyData.canLay0, h2]
theorem eqD_nil {ds : List D} {d : D} : eqD (.tup (ds ++ [d])) (.tup []) = false := by
  unfold eqD pyD
  cases ds with
  | nil => simp [pyL, PyData.eqv, PyData.eqvAll]
  | cons e r => simp [pyL, PyData.eqv, PyData.eqvAll]
/-- == of numbers with roots -/
theorem eqD_T : ∀ (l : Nat) (x y : T l), eqD (dT l x) (dT l y) = true ↔ x = y
  | 0, x, y => by
    have h : PyData.eqv (.int (show Int from x)) (.int (show Int from y)) = decide ((show Int from x) = (show Int from y)) := eqv_int
    exact Iff.trans (Eq.to_iff (congrArg (· = true) h)) decide_eq_true_iff
  | l + 1, x, y => by
    have h1 := eqD_T l x.1 y.1
    have h2 := eqD_T l x.2 y.2
    unfold eqD at h1 h2 ⊢
    rw [dT_succ, dT_succ]
    simp only [pyD, pyL, PyData.eqv, PyData.eqvAll, Bool.and_true, Bool.and_eq_true, h1, h2]
    constructor
    · intro h; exact Prod.ext h.1 h.2
    · intro h; rw [h]; exact ⟨rfl, rfl⟩
def optT (l : Nat) : OT l → D
  | some g => .tup [dT l g.1, dT l g.2]
  | none => .non
theorem optT_some {l : Nat} {g : T l × T l} : optT l (some g) = .tup [dT l g.1, dT l g.2] := rfl
theorem optT_none {l : Nat} : optT l none = .non := rfl
def w_root_in (j : Nat) : List D → Wm D := fun ds K _ n => ∃ (l : Nat) (r : Rt l) (x : T l), ds = [rD l r, dT l x] ∧ (l < j ∧ l ≤ 2 ∧ RB l r ∧ Bd l (capP l) x) ∧ K (optT l (rootIn l r x)) n
def w_flat_root (j : Nat) : List D → Wm D := fun ds K _ n => ∃ (l : Nat) (r : Rt (l + 1)) (a : T l), ds = [rD (l + 1) r, dT l a] ∧ (l < j ∧ l ≤ 1 ∧ RB (l + 1) r ∧ Bd l (capP (l + 1)) a) ∧ K (optT (l + 1) (flatR rootIn l r a)) n
def w_mixed_root (j : Nat) : List D → Wm D := fun ds K _ n => ∃ (l : Nat) (r : Rt (l + 1)) (a b : T l), ds = [rD (l + 1) r, .tup [dT l a, dT l b]] ∧ (l < j ∧ l ≤ 1 ∧ RB (l + 1) r ∧ Bd l (capP (l + 1)) a ∧ Bd l (capP (l + 1)) b) ∧ K (optT (l + 1) (mixR rootIn l r a b)) n
/-- roots that may be -/
def okRoots (d : D) (l : Nat) (r : Rt l) : Prop := tupled d = rD l r ∧ l ≤ 3 ∧ RB l r ∧ goodR l r = true
/-- .. that may not be -/
def noRoots (d : D) : Prop := tupB (tupled d) = false ∨ (∃ es, tupled d = .tup es ∧ 3 < es.length) ∨ ∃ (l : Nat) (r : Rt l) (bad : D) (rest : List D), tupled d = .tup (rL l r ++ bad :: rest) ∧ l + rest.length ≤ 2 ∧ RB l r ∧ goodR l r = true ∧ (isPl l bad = false ∨ ∃ x : T l, bad = dT l x ∧ Bd l 3 x ∧ (rootIn l r x).isSome = true)
def w_roots_from (CR : Addr) : List D → Wm D := fun ds K X n => ∃ d, ds = [d] ∧ okDp 6 d = true ∧ ((∃ (l : Nat) (r : Rt l), okRoots d l r ∧ K (rD l r) n) ∨ (noRoots d ∧ X ⟨CR, ["row"], [d]⟩ n))
def w_plain_from (CR : Addr) : List D → Wm D := fun ds K X n => ∃ (l : Nat) (d : D), ds = [.int l, d] ∧ (l ≤ 3 ∧ okDp 6 d = true) ∧ if isPl l (tupled d) = true then K (tupled d) n else X ⟨CR, ["row"], [d]⟩ n
def w_grid_sum (CN CR : Addr) : List D → Wm D := fun ds K X n => ∃ lv a b, ds = [lv, a, b] ∧ baseD lv = true ∧ okDp 6 a = true ∧ okDp 6 b = true ∧
  ((∃ (l : Nat) (x y : T l), lv = .int l ∧ l ≤ 3 ∧ tupled a = dT l x ∧ tupled b = dT l y ∧ K (dT l (addT l x y)) n) ∨
   (∃ (l : Nat) (x : T l), lv = .int l ∧ l ≤ 3 ∧ tupled a = dT l x ∧ isPl l (tupled b) = false ∧ X ⟨CR, ["row"], [b]⟩ n) ∨
   (∃ (l : Nat), lv = .int l ∧ l ≤ 3 ∧ isPl l (tupled a) = false ∧ X ⟨CR, ["row"], [a]⟩ n) ∨
   ((∀ i : Int, lv = .int i → i < 0 ∨ 3 < i) ∧ X ⟨CN, ["number", "what"], [lv, .str "level"]⟩ n))
def w_grid_product (CR : Addr) : List D → Wm D := fun ds K X n => ∃ rs a b, ds = [rs, a, b] ∧ okDp 6 rs = true ∧ okDp 6 a = true ∧ okDp 6 b = true ∧
  ((∃ (l : Nat) (r : Rt l) (x y : T l), okRoots rs l r ∧ tupled a = dT l x ∧ tupled b = dT l y ∧ (∃ p, p ≤ 190000 ∧ Bd l p x ∧ Bd l p y) ∧ K (dT l (mulT l r x y)) n) ∨
   (∃ (l : Nat) (r : Rt l) (x : T l), okRoots rs l r ∧ tupled a = dT l x ∧ isPl l (tupled b) = false ∧ X ⟨CR, ["row"], [b]⟩ n) ∨
   (∃ (l : Nat) (r : Rt l), okRoots rs l r ∧ isPl l (tupled a) = false ∧ X ⟨CR, ["row"], [a]⟩ n) ∨
   (noRoots rs ∧ X ⟨CR, ["row"], [rs]⟩ n))
def w__law_pen (Kf : PySem.W.Frag) : List D → Wm D
  | [.scr K' ns _] => fun K _ n => (K' = Kf ∧ ns.length ≤ 63) ∧ K .pen n
  | _ => Wm.fail
def w__law_pick : List D → Wm D
  | [.pen, .lst ds] => fun K _ n => (0 < ds.length ∧ ds.length ≤ 1000 ∧ n < 1099511627776) ∧ ∀ d ∈ ds, K d (n + 1)
  | _ => Wm.fail
abbrev w__law_draw := drawW
def w__law_lists (j : Nat) : List D → Wm D
  | [d] => fun K _ n => okDp j d = true ∧ K (listed d) n
  | _ => Wm.fail
def w__law_either : List D → Wm D
  | [.pen, d] => fun K _ n => (okDp 6 d = true ∧ n < 1000000000) ∧ K d (n + 1) ∧ K (listed d) (n + 1)
  | _ => Wm.fail
/-- entries of at most m -/
def Mx : (l : Nat) → Int → T l → Prop
  | 0, m, x => -m ≤ (show Int from x) ∧ (show Int from x) ≤ m
  | l + 1, m, x => Mx l m x.1 ∧ Mx l m x.2
def w__law_drawn (j : Nat) : List D → Wm D := fun ds K _ n => ∃ (l : Nat) (m : Int), ds = [.pen, .int l, .int m] ∧ (l < j ∧ l ≤ 3 ∧ 0 ≤ m ∧ m ≤ 1000 ∧ n + 2 ^ l ≤ 1000000000) ∧ ∀ x : T l, Mx l m x → K (dT l x) (n + 2 ^ l)
def w__law_zero_of (j : Nat) : List D → Wm D := fun ds K _ n => ∃ l : Nat, ds = [.int l] ∧ l < j ∧ K (dT l (zT l)) n
def w__law_add (j : Nat) : List D → Wm D := fun ds K _ n => ∃ (l : Nat) (x y : T l), ds = [.int l, dT l x, dT l y] ∧ l < j ∧ K (dT l (addT l x y)) n
def w__law_mul (j : Nat) : List D → Wm D := fun ds K _ n => ∃ (l : Nat) (r : Rt l) (x y : T l) (p q : Nat), ds = [rD l r, dT l x, dT l y] ∧ (l < j ∧ l ≤ 3 ∧ RB l r ∧ Bd l p x ∧ Bd l q y ∧ p + q + cc l ≤ 400000) ∧ K (dT l (mulT l r x y)) n
abbrev wx (_ : List D) : Wm D := fun _ _ _ => True
def faultX (CR CN : Addr) (x : XD) (d : D) : Prop := (∃ e, x = ⟨CR, ["row"], [e]⟩ ∧ d = .tup [.str "row", e]) ∨ (∃ a b, x = ⟨CN, ["number", "what"], [a, b]⟩ ∧ d = .tup [.str "number", b, a])
def w_fault (P : Program) (w : World) (K : PySem.W.Frag) (mg : Str → Option Value) (base : Heap) (kAct : Nat) (CR CN : Addr) : List D → Wm D := fun ds Kd _ n => ∃ r cs m, ds = [.clo true r cs] ∧ CloSp P w K mg base kAct r cs m ∧ ∀ Kx : XD → Nat → Prop, (∀ x n', (∃ d, faultX CR CN x d ∧ Kd d n') → Kx x n') → m (fun _ n' => Kd .non n') Kx n
def w_due (P : Program) (w : World) (K : PySem.W.Frag) (mg : Str → Option Value) (base : Heap) (kAct : Nat) (CR CN : Addr) : List D → Wm D := fun ds Kd _ n => ∃ ts, ds = [.lst ts] ∧ ts.length ≤ 1000 ∧ (∀ t ∈ ts, ∃ r cs m d, t = .tup [.clo true r cs, d] ∧ CloSp P w K mg base kAct r cs m ∧ Shows d ∧ ∀ (Kd : D → Nat → Prop) (Kx : XD → Nat → Prop), (∀ x, faultX CR CN x d → Kx x n) → m Kd Kx n) ∧ Kd (.bl true) n
def w_law (Kf : PySem.W.Frag) (Pt : Addr) : List D → Wm D := fun ds Kd _ n => ∃ ns tabs, ds = [.scr Kf ns tabs] ∧ ns.length ≤ 63 ∧ Pt ∈ tabs ∧ n = 0 ∧ ∀ n', Kd (.bl true) n'
theorem items1 {f t : Str} {d : D} : itemsD [f] [d] [(t, false), (f, true)] = some [.str t, d] := by simp [itemsD, fieldD]
theorem items2 {f g t : Str} {d e : D} (h : g ≠ f) : itemsD [f, g] [d, e] [(t, false), (g, true), (f, true)] = some [.str t, e, d] := by simp [itemsD, fieldD, h]
theorem s_own {k : Nat} {t : TD (List D)} {E : DEnds} {ρ : Env'} {n : Nat} : dOwn k t E ρ n = t ρ (fun ds n' => Fits ds.length ∧ E.nx (ρ.set k (some (.ml ds))) n') (fun x n' => E.ex x ρ n') n := rfl
theorem s_app {k : Nat} {t : TD D} {E : DEnds} {ρ : Env'} {n : Nat} {ds : List D} (e : ρ[k]? = some (some (.ml ds))) : dAppend k t E ρ n = t ρ (fun d n' => ds.length < sizeLine ∧ E.nx (ρ.set k (some (.ml (ds ++ [d])))) n') (fun x n' => E.ex x ρ n') n := by
  unfold dAppend
  rw [e]
  rfl
theorem s_frz {k : Nat} {t : TDS} {E : DEnds} {ρ : Env'} {n : Nat} {ds : List D} (e : ρ[k]? = some (some (.ml ds))) : dFreeze k t E ρ n = t E (ρ.set k (some (.d (.lst ds)))) n := by
  unfold dFreeze
  rw [e]
theorem w_tabD {P : Addr} {cells : List (Str × Addr)} {ps : Arguments} {b : Expr} {sc : Scope} {Kf : PySem.W.Frag} {ns : List Int} {tabs : List Addr} {ρ : Env'} {Kd : D → Nat → Prop} {X : XD → Nat → Prop} {n : Nat} : tabD P cells ps b sc (.scr Kf ns tabs) ρ Kd X n = (P ∈ tabs ∧ ∀ r : CloR, LamR cells ps b sc r → Kd (.clo false r []) n) := rfl
mutual
theorem tellOk_plain {p : CloR → Prop} : ∀ {d : D}, plainD d = true → tellOk p d
  | .tup ds, e => by unfold plainD at e; unfold tellOk; exact tellOkL_plain e
  | .lst ds, e => by unfold plainD at e; unfold tellOk; exact tellOkL_plain e
  | .non, e => by unfold tellOk; trivial
  | .bl _, e => by unfold tellOk; trivial
  | .int _, e => by unfold tellOk; trivial
  | .str _, e => by unfold tellOk; trivial
  | .dic _ _, e => by unfold tellOk; exact e
  | .obj _ _ _, e => by unfold tellOk; exact e
  | .clo _ _ _, e => by unfold plainD at e; cases e
  | .exc _ _ _, e => by unfold plainD at e; cases e
  | .pen, e => by unfold plainD at e; cases e
  | .fnA _, e => by unfold tellOk; trivial
  | .scr _ _ _, e => by unfold plainD at e; cases e
theorem tellOkL_plain {p : CloR → Prop} : ∀ {ds : List D}, plainL ds = true → tellOkL p ds
  | [], _ => by unfold tellOkL; trivial
  | d :: ds, e => by unfold plainL at e; rw [Bool.and_eq_true] at e; unfold tellOkL; exact ⟨tellOk_plain e.1, tellOkL_plain e.2⟩
end
mutual
theorem tell_plain {cap : Str → D} : ∀ {d : D}, plainD d = true → tellD cap d = d
  | .tup ds, e => by unfold plainD at e; unfold tellD; rw [tellL_plain e]
  | .lst ds, e => by unfold plainD at e; unfold tellD; rw [tellL_plain e]
  | .non, e => by unfold tellD; rfl
  | .bl _, e => by unfold tellD; rfl
  | .int _, e => by unfold tellD; rfl
  | .str _, e => by unfold tellD; rfl
  | .dic _ _, e => by unfold tellD; rfl
  | .obj _ _ _, e => by unfold tellD; rfl
  | .clo _ _ _, e => by unfold plainD at e; cases e
  | .exc _ _ _, e => by unfold plainD at e; cases e
  | .pen, e => by unfold plainD at e; cases e
  | .fnA _, e => by unfold tellD; rfl
  | .scr _ _ _, e => by unfold plainD at e; cases e
theorem tellL_plain {cap : Str → D} : ∀ {ds : List D}, plainL ds = true → tellL cap ds = ds
  | [], _ => by unfold tellL; rfl
  | d :: ds, e => by unfold plainL at e; rw [Bool.and_eq_true] at e; unfold tellL; rw [tell_plain e.1, tellL_plain e.2]
end
theorem shows_bl {c : Bool} : Shows (.bl c) := by
  refine shows_of (by simp [flatD]) (by simp [tinyB]) ?_ ?_
  · simp [pyD, PyData.depth]
  · simp [pyD, PyData.bulk]
theorem tupled_T : ∀ (l : Nat) (x : T l), tupled (dT l x) = dT l x
  | 0, x => rfl
  | l + 1, x => by
    rw [dT_succ]
    unfold tupled tupledL tupledL tupledL
    rw [tupled_T l, tupled_T l]
theorem okDp_T : ∀ (l : Nat) (x : T l), okDp (l + 1) (dT l x) = true
  | 0, x => rfl
  | l + 1, x => by
    show (decide (2 ≤ 1000) && (okDp (l + 1) (dT l x.1) && (okDp (l + 1) (dT l x.2) && true))) = true
    rw [okDp_T l, okDp_T l]
    rfl
theorem okDp_mono {i j : Nat} {d : D} (h : okDp i d = true) (hij : i ≤ j) : okDp j d = true := by
  induction hij with
  | refl => exact h
  | step _ ih => exact okDp_succ ih
mutual
theorem tupled_listed : ∀ d : D, tupled (listed d) = tupled d
  | .tup ds => by unfold listed tupled; rw [tupledL_listedL ds]
  | .lst ds => by unfold listed; rfl
  | .non => rfl
  | .bl _ => rfl
  | .int _ => rfl
  | .str _ => rfl
  | .dic _ _ => rfl
  | .obj _ _ _ => rfl
  | .exc _ _ _ => rfl
  | .pen => rfl
  | .clo _ _ _ => rfl
  | .fnA _ => rfl
  | .scr _ _ _ => rfl
theorem tupledL_listedL : ∀ ds : List D, tupledL (listedL ds) = tupledL ds
  | [] => rfl
  | d :: ds => by unfold listedL tupledL; rw [tupled_listed d, tupledL_listedL ds]
end
theorem okDp_listed : ∀ {j : Nat} {d : D}, okDp j d = true → okDp j (listed d) = true
  | 0, _, h => by cases h
  | j + 1, d, h => by
    cases d with
    | tup ds =>
      obtain ⟨h1, h2⟩ := okDp_tup h
      show (decide ((listedL ds).length ≤ 1000) && (listedL ds).all (okDp j)) = true
      rw [listedL_map, List.length_map, decide_eq_true h1, Bool.true_and, List.all_eq_true]
      intro d hd
      obtain ⟨e, he, rfl⟩ := List.mem_map.mp hd
      exact okDp_listed (h2 e he)
    | _ => exact h
/-- a thing passed as it is, or by lists -/
theorem eith {d : D} {K : D → Nat → Prop} {X : XD → Nat → Prop} {n : Nat} (h1 : okDp 6 d = true) (h2 : n < 1000000000) (h : ∀ d', tupled d' = tupled d → okDp 6 d' = true → K d' (n + 1)) : w__law_either [.pen, d] K X n :=
  ⟨⟨h1, h2⟩, h d rfl h1, h _ (tupled_listed d) (okDp_listed h1)⟩
theorem tupledL_rL : ∀ (l : Nat) (r : Rt l), tupledL (rL l r) = rL l r
  | 0, r => rfl
  | l + 1, r => by
    rw [rL_succ, tupledL_map, List.map_append, ← tupledL_map, tupledL_rL l r.1]
    show rL l r.1 ++ [tupled (dT l r.2)] = _
    rw [tupled_T]
theorem tupled_rD (l : Nat) (r : Rt l) : tupled (rD l r) = rD l r := by
  unfold rD tupled
  rw [tupledL_rL]
theorem okDp_rL : ∀ (l : Nat) (r : Rt l) (d : D), d ∈ rL l r → l ≤ 4 → okDp 5 d = true
  | 0, r, d, h, _ => by cases h
  | l + 1, r, d, h, hl => by
    rw [rL_succ] at h
    rcases List.mem_append.mp h with h | h
    · exact okDp_rL l r.1 d h (by omega)
    · rw [List.mem_singleton.mp h]
      exact okDp_mono (okDp_T l r.2) (by omega)
theorem okDp_rD {l : Nat} (h : l ≤ 3) (r : Rt l) : okDp 6 (rD l r) = true := by
  show (decide ((rL l r).length ≤ 1000) && (rL l r).all (okDp 5)) = true
  rw [rL_len, decide_eq_true (by omega), Bool.true_and, List.all_eq_true]
  exact fun d hd => okDp_rL l r d hd (by omega)
theorem mx_bd : ∀ {l : Nat} {x : T l}, Mx l 4 x → Bd l 3 x
  | 0, x, h => by
    have h1 : -4 ≤ (show Int from x) := h.1
    have h2 : (show Int from x) ≤ 4 := h.2
    show (show Int from x).natAbs < 2 ^ 3
    omega
  | l + 1, x, h => ⟨mx_bd h.1, mx_bd h.2⟩
theorem mx_mono : ∀ {l : Nat} {m k : Int} {x : T l}, Mx l m x → m ≤ k → Mx l k x
  | 0, m, k, x, h, hk => by
    have h1 : -m ≤ (show Int from x) := h.1
    have h2 : (show Int from x) ≤ m := h.2
    exact ⟨by show -k ≤ (show Int from x); omega, by show (show Int from x) ≤ k; omega⟩
  | l + 1, m, k, x, h, hk => ⟨mx_mono h.1 hk, mx_mono h.2 hk⟩
theorem shows_T {l : Nat} (hl : l ≤ 3) {x : T l} {p : Nat} (hp : p ≤ 200) (h : Bd l p x) : Shows (dT l x) := by
  have tiny : ∀ (l : Nat) (x : T l), Bd l p x → tinyB (dT l x) = true := by
    intro l
    induction l with
    | zero =>
      intro x h
      have : (show Int from x).natAbs < 2 ^ 200 := Nat.lt_of_lt_of_le h (Nat.pow_le_pow_right (by decide) hp)
      exact decide_eq_true this
    | succ l ih =>
      intro x h
      rw [dT_succ]
      simp only [tinyB, tinyL, ih _ h.1, ih _ h.2, Bool.and_self]
  have bulk : ∀ (l : Nat) (x : T l), (pyD (dT l x)).bulk + 6 ≤ 8 * 2 ^ (l + 1) := by
    intro l
    induction l with
    | zero => intro x; unfold dT pyD; simp [PyData.bulk]
    | succ l ih =>
      intro x
      have := ih x.1
      have := ih x.2
      rw [dT_succ]
      simp only [pyD, pyL, PyData.bulk, PyData.bulkAll]
      rw [Nat.pow_succ]
      have := Nat.pow_le_pow_right (n := 2) (by decide) (show 1 ≤ l + 1 by omega)
      omega
  obtain ⟨⟨f, _⟩, _, dep⟩ := eqOk_T l x (by omega)
  refine shows_of (by rw [f]; rfl) (tiny l x h) (by omega) ?_
  have := bulk l x
  have : 2 ^ (l + 1) ≤ 2 ^ 4 := Nat.pow_le_pow_right (by decide) (by omega)
  omega
abbrev NINE : List D := [.tup [], .tup [.int 2], .tup [.int (-1)], .tup [.int 3], .tup [.int 2, .tup [.int 3, .int 0]], .tup [.int (-1), .tup [.int 2, .int 0]], .tup [.int 2, .tup [.int 1, .int 1]], .tup [.int 5, .tup [.int (-1), .int 0]], .tup [.int 2, .tup [.int 3, .int 0], .tup [.tup [.int 5, .int 0], .tup [.int 0, .int 0]]]]
theorem nine {d : D} (h : d ∈ NINE) : ∃ (l : Nat) (r : Rt l), d = rD l r ∧ l ≤ 3 ∧ RB l r ∧ goodR l r = true ∧ (∀ x y : T l, mulT l r x y = zT l ↔ x = zT l ∨ y = zT l) := by
  simp only [List.mem_cons, List.not_mem_nil, or_false] at h
  rcases h with rfl | rfl | rfl | rfl | rfl | rfl | rfl | rfl | rfl
  · exact ⟨0, (show Rt 0 from ()), rfl, by decide, trivial, by decide +kernel, dom_of (l := 0) (r := ()) nzd_int⟩
  · exact ⟨1, (show Rt 1 from ((), (2 : Int))), rfl, by decide, ⟨trivial, show (2 : Int).natAbs < 2 ^ 3 by decide⟩, by decide +kernel, dom_of (l := 1) (r := ((), (2 : Int))) d_2⟩
  · exact ⟨1, (show Rt 1 from ((), (-1 : Int))), rfl, by decide, ⟨trivial, show (-1 : Int).natAbs < 2 ^ 3 by decide⟩, by decide +kernel, dom_of (l := 1) (r := ((), (-1 : Int))) d_m1⟩
  · exact ⟨1, (show Rt 1 from ((), (3 : Int))), rfl, by decide, ⟨trivial, show (3 : Int).natAbs < 2 ^ 3 by decide⟩, by decide +kernel, dom_of (l := 1) (r := ((), (3 : Int))) d_3⟩
  · exact ⟨2, (show Rt 2 from (((), (2 : Int)), ((3 : Int), (0 : Int)))), rfl, by decide, ⟨⟨trivial, show (2 : Int).natAbs < 2 ^ 3 by decide⟩, show (3 : Int).natAbs < 2 ^ 3 by decide, show (0 : Int).natAbs < 2 ^ 3 by decide⟩, by decide +kernel, dom_of (l := 2) (r := (((), (2 : Int)), ((3 : Int), (0 : Int)))) d_23⟩
  · exact ⟨2, (show Rt 2 from (((), (-1 : Int)), ((2 : Int), (0 : Int)))), rfl, by decide, ⟨⟨trivial, show (-1 : Int).natAbs < 2 ^ 3 by decide⟩, show (2 : Int).natAbs < 2 ^ 3 by decide, show (0 : Int).natAbs < 2 ^ 3 by decide⟩, by decide +kernel, dom_of (l := 2) (r := (((), (-1 : Int)), ((2 : Int), (0 : Int)))) d_m12⟩
  · exact ⟨2, (show Rt 2 from (((), (2 : Int)), ((1 : Int), (1 : Int)))), rfl, by decide, ⟨⟨trivial, show (2 : Int).natAbs < 2 ^ 3 by decide⟩, show (1 : Int).natAbs < 2 ^ 3 by decide, show (1 : Int).natAbs < 2 ^ 3 by decide⟩, by decide +kernel, dom_of (l := 2) (r := (((), (2 : Int)), ((1 : Int), (1 : Int)))) d_211⟩
  · exact ⟨2, (show Rt 2 from (((), (5 : Int)), ((-1 : Int), (0 : Int)))), rfl, by decide, ⟨⟨trivial, show (5 : Int).natAbs < 2 ^ 3 by decide⟩, show (-1 : Int).natAbs < 2 ^ 3 by decide, show (0 : Int).natAbs < 2 ^ 3 by decide⟩, by decide +kernel, dom_of (l := 2) (r := (((), (5 : Int)), ((-1 : Int), (0 : Int)))) d_5m1⟩
  · exact ⟨3, (show Rt 3 from ((((), (2 : Int)), ((3 : Int), (0 : Int))), (((5 : Int), (0 : Int)), ((0 : Int), (0 : Int))))), rfl, by decide, ⟨⟨⟨trivial, show (2 : Int).natAbs < 2 ^ 3 by decide⟩, show (3 : Int).natAbs < 2 ^ 3 by decide, show (0 : Int).natAbs < 2 ^ 3 by decide⟩, ⟨show (5 : Int).natAbs < 2 ^ 3 by decide, show (0 : Int).natAbs < 2 ^ 3 by decide⟩, show (0 : Int).natAbs < 2 ^ 3 by decide, show (0 : Int).natAbs < 2 ^ 3 by decide⟩, by decide +kernel, dom_of (l := 3) (r := ((((), (2 : Int)), ((3 : Int), (0 : Int))), (((5 : Int), (0 : Int)), ((0 : Int), (0 : Int))))) d_235⟩
theorem prod_ok {l : Nat} {r : Rt l} {rs a b : D} {x y : T l} {CR : Addr} {K : D → Nat → Prop} {X : XD → Nat → Prop} {n p : Nat} (hl : l ≤ 3) (hr : RB l r) (hg : goodR l r = true) (h1 : tupled rs = rD l r) (h2 : okDp 6 rs = true) (h3 : tupled a = dT l x) (h4 : okDp 6 a = true) (h5 : tupled b = dT l y) (h6 : okDp 6 b = true) (hp : p ≤ 190000) (hx : Bd l p x) (hy : Bd l p y)
    (h : K (dT l (mulT l r x y)) n) : w_grid_product CR [rs, a, b] K X n := ⟨rs, a, b, rfl, h2, h4, h6, .inl ⟨l, r, x, y, ⟨h1, hl, hr, hg⟩, h3, h5, ⟨p, hp, hx, hy⟩, h⟩⟩
theorem prod_T {l : Nat} {r : Rt l} {x y : T l} {CR : Addr} {K : D → Nat → Prop} {X : XD → Nat → Prop} {n p : Nat} (hl : l ≤ 3) (hr : RB l r) (hg : goodR l r = true) (hp : p ≤ 190000) (hx : Bd l p x) (hy : Bd l p y)
    (h : K (dT l (mulT l r x y)) n) : w_grid_product CR [.tup (rL l r), dT l x, dT l y] K X n := prod_ok hl hr hg (tupled_rD l r) (okDp_rD hl r) (tupled_T l x) (okDp_mono (okDp_T l x) (by omega)) (tupled_T l y) (okDp_mono (okDp_T l y) (by omega)) hp hx hy h
theorem sum_T {l : Nat} {x y : T l} {CN CR : Addr} {K : D → Nat → Prop} {X : XD → Nat → Prop} {n : Nat} (hl : l ≤ 3) (h : K (dT l (addT l x y)) n) : w_grid_sum CN CR [.int l, dT l x, dT l y] K X n :=
  ⟨_, _, _, rfl, rfl, okDp_mono (okDp_T l x) (by omega), okDp_mono (okDp_T l y) (by omega), .inl ⟨l, x, y, rfl, hl, tupled_T l x, tupled_T l y, h⟩⟩
def isq (n : Int) : Int := bis (n.toNat + 1) n 0 (n + 1)
def rootQ (a b : Int) : D := if a < 0 then .non else if isq a * isq a = a ∧ isq b * isq b = b then .tup [.int (isq a), .int (isq b)] else .non
def w__law_root : List D → Wm D := fun ds K _ n => ∃ a b : Int, ds = [.tup [.int a, .int b]] ∧ (a.natAbs < 2 ^ 1000 ∧ b.natAbs < 2 ^ 1000 ∧ 0 ≤ b) ∧ K (rootQ a b) n
def lowI (t b : Int) : Int × Int := (t.fdiv (if 0 < b then ((Nat.gcd t.natAbs b.natAbs : Nat) : Int) else -((Nat.gcd t.natAbs b.natAbs : Nat) : Int)), b.fdiv (if 0 < b then ((Nat.gcd t.natAbs b.natAbs : Nat) : Int) else -((Nat.gcd t.natAbs b.natAbs : Nat) : Int)))
def prD (p : Int × Int) : D := .tup [.int p.1, .int p.2]
def Big (i : Int) : Prop := i.natAbs < 2 ^ 200
theorem bits_lt (i : Int) : i.natAbs < 2 ^ (Builtin.Int.intBits i) := by
  unfold Builtin.Int.intBits
  split
  · rename_i h
    have h : i = 0 := by simpa using h
    subst h
    decide
  · exact Nat.lt_log2_self
theorem bits_le {i : Int} {k : Nat} (h0 : 0 < k) (h : i.natAbs < 2 ^ k) : Builtin.Int.intBits i ≤ k := by
  unfold Builtin.Int.intBits
  split
  · omega
  · have := PySem.Flt.log2_lt_of h0 h
    omega
/-- one more turn of Euclid's -/
def Eu (g : Nat) (k : Nat) (a b : Nat) : Prop := Nat.gcd a b = g ∧ (b = 0 ∨ (b ≤ a ∧ a * b < 2 ^ k) ∨ (1 ≤ k ∧ b * b < 2 ^ (k - 1)))
theorem eu_step {g k a b : Nat} (hb : b ≠ 0) (h : Eu g (k + 1) a b) : Eu g k b (a % b) := by
  obtain ⟨h1, h2⟩ := h
  have hb0 : 0 < b := Nat.pos_of_ne_zero hb
  have hr : a % b < b := Nat.mod_lt _ hb0
  refine ⟨by rw [← h1, Nat.gcd_comm b, Nat.gcd_comm a b]; exact (Nat.gcd_rec b a).symm, .inr (.inl ⟨Nat.le_of_lt hr, ?_⟩)⟩
  rcases h2 with h2 | ⟨h2, h3⟩ | ⟨_, h3⟩
  · exact absurd h2 hb
  · have e : b + a % b ≤ a := by
      have e1 := Nat.div_add_mod a b
      have e2 : 1 ≤ a / b := (Nat.one_le_div_iff hb0).mpr h2
      have e3 : b * 1 ≤ b * (a / b) := Nat.mul_le_mul_left b e2
      omega
    have e4 : 2 * (a % b) ≤ a := by omega
    have e5 : b * (2 * (a % b)) ≤ b * a := Nat.mul_le_mul_left b e4
    have e6 : b * (2 * (a % b)) = 2 * (b * (a % b)) := by rw [Nat.mul_left_comm]
    have e7 : b * a = a * b := Nat.mul_comm b a
    have e8 : 2 ^ (k + 1) = 2 * 2 ^ k := by rw [Nat.pow_succ, Nat.mul_comm]
    omega
  · exact Nat.lt_of_le_of_lt (Nat.mul_le_mul_left b (Nat.le_of_lt hr)) (by simpa using h3)
theorem eu_end {g a b : Nat} (h : Eu g 0 a b) : b = 0 ∧ a = g := by
  obtain ⟨h1, h2⟩ := h
  have hb : b = 0 := by
    rcases h2 with h2 | ⟨h2, h3⟩ | ⟨h, _⟩
    · exact h2
    · have h3 : a * b < 1 := h3
      have : a * b = 0 := by omega
      rcases Nat.mul_eq_zero.mp this with h | h <;> omega
    · omega
  subst hb
  exact ⟨rfl, by rw [Nat.gcd_zero_right] at h1; exact h1⟩
theorem eu_stop {g k a : Nat} (h : Eu g k a 0) : Eu g 0 a 0 := ⟨h.1, .inl rfl⟩
def w__law_gcd : List D → Wm D
  | [.int a, .int b] => fun K _ n => (Big a ∧ Big b) ∧ K (.int (Nat.gcd a.natAbs b.natAbs : Nat)) n
  | _ => Wm.fail
def w__law_q : List D → Wm D
  | [.int t, .int b] => fun K _ n => (Big t ∧ Big b ∧ b ≠ 0) ∧ K (prD (lowI t b)) n
  | _ => Wm.fail
def w__law_is_int : List D → Wm D
  | [d] => fun K _ n => baseD d = true ∧ K (.bl (wholeB d)) n
  | _ => Wm.fail
def w__law_says : List D → Wm D
  | [.bl a, .bl b] => fun K _ n => K (.bl (decide (a = b))) n
  | _ => Wm.fail
/-- a value that may be compared -/
def okV (d : D) : Prop := flatD d = true ∧ (pyD d).canLay0 = true ∧ (pyD d).depth ≤ 30
theorem okV_two {x y : D} (h : okV (.tup [x, y])) : okV x ∧ okV y := by
  obtain ⟨h1, h2, h3⟩ := h
  simp only [flatD, flatL, Bool.and_true, Bool.and_eq_true] at h1
  simp only [pyD, pyL, PyData.canLay0, PyData.canLayAll0, Bool.and_true, Bool.and_eq_true] at h2
  simp only [pyD, pyL, PyData.depth, PyData.depthAll] at h3
  exact ⟨⟨h1.1, by first | exact h2.1 | simp_all, by omega⟩, ⟨h1.2, by first | exact h2.2 | simp_all, by omega⟩⟩
theorem okV_eq {d : D} (h : okV d) : EqOk d := ⟨h.1, by
  unfold SeqAt.shaped
  rw [h.2.1, decide_eq_true (by have := h.2.2; omega)]
  rfl⟩
theorem okV_list : ∀ {ws : List (Nat × D)}, (∀ p ∈ ws, okV p.2) → flatL (ws.map fun p => D.tup [.int p.1, p.2]) = true ∧ PyData.canLayAll0 (pyL (ws.map fun p => D.tup [.int p.1, p.2])) = true ∧ PyData.depthAll (pyL (ws.map fun p => D.tup [.int p.1, p.2])) ≤ 31
  | [], _ => by simp [flatL, pyL, PyData.canLayAll0, PyData.depthAll]
  | p :: ws, h => by
    obtain ⟨a1, a2, a3⟩ := h p List.mem_cons_self
    obtain ⟨b1, b2, b3⟩ := okV_list (ws := ws) fun q hq => h q (List.mem_cons_of_mem _ hq)
    refine ⟨?_, ?_, ?_⟩
    · simp only [List.map_cons, flatL, flatD, a1, b1, Bool.and_self]
    · simp [pyL, pyD, PyData.canLayAll0, PyData.canLay0, a2, b2]
    · simp [pyL, pyD, PyData.depthAll, PyData.depth]
      omega
theorem okV_waiting {ws : List (Nat × D)} (h : ∀ p ∈ ws, okV p.2) : EqOk (.lst (ws.map fun p => D.tup [.int p.1, p.2])) := by
  obtain ⟨b1, b2, b3⟩ := okV_list h
  refine ⟨by unfold flatD; exact b1, ?_⟩
  unfold SeqAt.shaped pyD
  simp [PyData.canLay0, PyData.depth, b2]
  omega
def w__law_is_number : List D → Wm D := fun ds K _ n => ∃ (l : Nat) (d : D), ds = [.int l, d] ∧ (l ≤ 2 ∧ okDp 6 d = true ∧ okV d) ∧ K (.bl (isPl l d)) n
/-- no pair of numbers -/
def badV (l : Nat) (v : D) : Prop := v ≠ .non ∧ (twoT v = none ∨ ∃ a b, twoT v = some (a, b) ∧ (isPl l a && isPl l b) = false)
def rootB (l : Nat) (r : Rt l) (y p q : T l) : Bool := !zB l q && decide (flT l (mulT l r p p) = flT l (mulT l r y (mulT l r q q)))
/-- what is told of a value -/
def isK (l : Nat) (r : Rt l) (y : T l) (v : D) (nn : Bool) (K : D → Nat → Prop) (n : Nat) : Prop :=
  (v = .non ∧ K (.bl nn) n) ∨ (badV l v ∧ K (.bl false) n) ∨ (∃ p q : T l, v = .tup [dT l p, dT l q] ∧ Bd l 94000 p ∧ Bd l 94000 q ∧ K (.bl (rootB l r y p q)) n)
def w__law_due : List D → Wm D := fun ds K _ n => ∃ (l : Nat) (r : Rt l) (y : T l) (v : D) (nn : Bool), ds = [rD l r, dT l y, v, .bl nn] ∧ (l ≤ 2 ∧ RB l r ∧ goodR l r = true ∧ Bd l 31 y ∧ okDp 6 v = true ∧ okV v) ∧ isK l r y v nn K n
def w_grid_root (CR : Addr) : List D → Wm D := fun ds K X n => ∃ rs x, ds = [rs, x] ∧ okDp 6 rs = true ∧ okDp 6 x = true ∧
  ((∃ (l : Nat) (r : Rt l) (y : T l), okRoots rs l r ∧ l ≤ 2 ∧ tupled x = dT l y ∧ Bd l (capP l) y ∧ K (optT l (rootIn l r y)) n) ∨
   (∃ (l : Nat) (r : Rt l), okRoots rs l r ∧ isPl l (tupled x) = false ∧ X ⟨CR, ["row"], [x]⟩ n) ∨
   (noRoots rs ∧ X ⟨CR, ["row"], [rs]⟩ n))
def w_is_grid_root (CR : Addr) : List D → Wm D := fun ds K X n => ∃ rs x v, ds = [rs, x, v] ∧ okDp 6 rs = true ∧ okDp 6 x = true ∧ okDp 6 v = true ∧
  ((∃ (l : Nat) (r : Rt l) (y : T l), okRoots rs l r ∧ l ≤ 2 ∧ tupled x = dT l y ∧ Bd l (capP l) y ∧ isK l r y v (rootIn l r y).isNone K n) ∨
   (∃ (l : Nat) (r : Rt l), okRoots rs l r ∧ isPl l (tupled x) = false ∧ X ⟨CR, ["row"], [x]⟩ n) ∨
   (noRoots rs ∧ X ⟨CR, ["row"], [rs]⟩ n))
theorem tup2_of {e : D} (hw : tupLen e 2 = true) : ∃ x y, e = .tup [x, y] := by
  cases e with
  | tup es =>
    have h2 : (es.length : Int) = 2 := by simpa [tupLen] using hw
    match es, h2 with
    | [x, y], _ => exact ⟨x, y, rfl⟩
    | [], h => simp at h
    | [_], h => simp at h
    | _ :: _ :: _ :: _, h => simp at h; omega
  | _ => cases hw
theorem okDp_two {j : Nat} {x y : D} (h : okDp (j + 1) (.tup [x, y]) = true) : okDp j x = true ∧ okDp j y = true := ⟨(okDp_tup h).2 _ (by simp), (okDp_tup h).2 _ (by simp)⟩
theorem cc2 {l : Nat} (h : l ≤ 2) : cc l ≤ 12 := by
  match l, h with
  | 0, _ => decide
  | 1, _ => decide
  | 2, _ => decide
theorem eqD_flT {l : Nat} {x y : T l} : eqD (dT l x) (dT l y) = decide (flT l x = flT l y) := by
  rw [Bool.eq_iff_iff, eqD_T, decide_eq_true_iff]
  exact ⟨fun e => by rw [e], flT_inj l x y⟩
theorem wsum_len : ∀ ws : List (Nat × D), ws.length ≤ (ws.map fun p => 2 ^ (p.1 + 1) - 1).sum
  | [] => by simp
  | q :: r => by
    have h := wsum_len r
    have := Nat.pow_le_pow_right (n := 2) (by decide) (show 1 ≤ q.1 + 1 by omega)
    rw [List.length_cons, List.map_cons, List.sum_cons]
    omega
abbrev EIGHT : List D := [.tup [], .tup [.int 2], .tup [.int (-1)], .tup [.int 3], .tup [.int 2, .tup [.int 3, .int 0]], .tup [.int (-1), .tup [.int 2, .int 0]], .tup [.int 2, .tup [.int 1, .int 1]], .tup [.int 5, .tup [.int (-1), .int 0]]]
/-- the rows of one root -/
def Low : (l : Nat) → Rt l → Prop
  | 1, r => (show Int from r.2) = 2 ∨ (show Int from r.2) = -1 ∨ (show Int from r.2) = 3
  | _, _ => True
theorem nm1 : NS Int (-1) := ns_neg (by decide)
theorem nm12 : NS (Q Int (-1)) ⟨2, 0⟩ := ns_Q nzd_int tw_int (by decide) (by decide) ns_2 (ns_neg (by decide))
theorem nm5 : NS (Q Int 5) ⟨-1, 0⟩ := ns_Q nzd_int tw_int (by decide) (by decide) (ns_neg (by decide)) (ns_neg (by decide))
theorem eight {d : D} (h : d ∈ EIGHT) : ∃ (l : Nat) (r : Rt l), d = rD l r ∧ l ≤ 2 ∧ RB l r ∧ goodR l r = true ∧ Chain l r ∧ Low l r := by
  simp only [List.mem_cons, List.not_mem_nil, or_false] at h
  rcases h with rfl | rfl | rfl | rfl | rfl | rfl | rfl | rfl
  · exact ⟨0, (show Rt 0 from ()), rfl, by decide, trivial, by decide +kernel, trivial, trivial⟩
  · exact ⟨1, (show Rt 1 from ((), (2 : Int))), rfl, by decide, ⟨trivial, show (2 : Int).natAbs < 2 ^ 3 by decide⟩, by decide +kernel, ⟨trivial, ns_2⟩, .inl rfl⟩
  · exact ⟨1, (show Rt 1 from ((), (-1 : Int))), rfl, by decide, ⟨trivial, show (-1 : Int).natAbs < 2 ^ 3 by decide⟩, by decide +kernel, ⟨trivial, nm1⟩, .inr (.inl rfl)⟩
  · exact ⟨1, (show Rt 1 from ((), (3 : Int))), rfl, by decide, ⟨trivial, show (3 : Int).natAbs < 2 ^ 3 by decide⟩, by decide +kernel, ⟨trivial, ns_3⟩, .inr (.inr rfl)⟩
  · exact ⟨2, (show Rt 2 from (((), (2 : Int)), ((3 : Int), (0 : Int)))), rfl, by decide, ⟨⟨trivial, show (2 : Int).natAbs < 2 ^ 3 by decide⟩, show (3 : Int).natAbs < 2 ^ 3 by decide, show (0 : Int).natAbs < 2 ^ 3 by decide⟩, by decide +kernel, ⟨⟨trivial, ns_2⟩, s_23⟩, trivial⟩
  · exact ⟨2, (show Rt 2 from (((), (-1 : Int)), ((2 : Int), (0 : Int)))), rfl, by decide, ⟨⟨trivial, show (-1 : Int).natAbs < 2 ^ 3 by decide⟩, show (2 : Int).natAbs < 2 ^ 3 by decide, show (0 : Int).natAbs < 2 ^ 3 by decide⟩, by decide +kernel, ⟨⟨trivial, nm1⟩, nm12⟩, trivial⟩
  · exact ⟨2, (show Rt 2 from (((), (2 : Int)), ((1 : Int), (1 : Int)))), rfl, by decide, ⟨⟨trivial, show (2 : Int).natAbs < 2 ^ 3 by decide⟩, show (1 : Int).natAbs < 2 ^ 3 by decide, show (1 : Int).natAbs < 2 ^ 3 by decide⟩, by decide +kernel, ⟨⟨trivial, ns_2⟩, ns_11⟩, trivial⟩
  · exact ⟨2, (show Rt 2 from (((), (5 : Int)), ((-1 : Int), (0 : Int)))), rfl, by decide, ⟨⟨trivial, show (5 : Int).natAbs < 2 ^ 3 by decide⟩, show (-1 : Int).natAbs < 2 ^ 3 by decide, show (0 : Int).natAbs < 2 ^ 3 by decide⟩, by decide +kernel, ⟨⟨trivial, ns_5⟩, nm5⟩, trivial⟩
theorem five {i : Int} (h1 : -2 ≤ i) (h2 : i ≤ 2) : i = -2 ∨ i = -1 ∨ i = 0 ∨ i = 1 ∨ i = 2 := by omega
theorem chk0 {b : T 0} (h : Mx 0 2 b) : (rootIn 0 () b).isNone = nonB (rootQ (show Int from b) 1) := by
  have h1 : -2 ≤ (show Int from b) := h.1
  have h2 : (show Int from b) ≤ 2 := h.2
  have e : ∀ i : Int, (i = -2 ∨ i = -1 ∨ i = 0 ∨ i = 1 ∨ i = 2) → (rootIn 0 () i).isNone = nonB (rootQ i 1) := by
    intro i hi
    rcases hi with rfl | rfl | rfl | rfl | rfl <;> decide +kernel
  exact e _ (five h1 h2)
theorem chk1a {r : Rt 1} {b : T 1} (hr : Low 1 r) (h : Mx 1 2 b) (hz : (show Int from b.2) = 0) : (rootIn 1 r b).isNone = (nonB (rootQ (show Int from b.1) 1) && nonB (rootQ (lowI (show Int from b.1) (show Int from r.2)).1 (lowI (show Int from b.1) (show Int from r.2)).2)) := by
  have h1 : -2 ≤ (show Int from b.1) := h.1.1
  have h2 : (show Int from b.1) ≤ 2 := h.1.2
  have e : ∀ i d : Int, (i = -2 ∨ i = -1 ∨ i = 0 ∨ i = 1 ∨ i = 2) → (d = 2 ∨ d = -1 ∨ d = 3) → (rootIn 1 ((), d) (i, (0 : Int))).isNone = (nonB (rootQ i 1) && nonB (rootQ (lowI i d).1 (lowI i d).2)) := by
    intro i d hi hd
    rcases hd with rfl | rfl | rfl <;> rcases hi with rfl | rfl | rfl | rfl | rfl <;> decide +kernel
  obtain ⟨u, d⟩ := r
  obtain ⟨i, j⟩ := b
  have hz : (show Int from j) = 0 := hz
  have e2 : j = (0 : Int) := hz
  subst e2
  exact e i d (five h1 h2) hr
theorem chk1b {r : Rt 1} {b : T 1} (hr : Low 1 r) (h : Mx 1 2 b) (hn : rootIn 1 r b ≠ none) : nonB (rootQ ((show Int from b.1) * (show Int from b.1) - (show Int from b.2) * (show Int from b.2) * (show Int from r.2)) 1) = false := by
  have e : ∀ i j d : Int, (i = -2 ∨ i = -1 ∨ i = 0 ∨ i = 1 ∨ i = 2) → (j = -2 ∨ j = -1 ∨ j = 0 ∨ j = 1 ∨ j = 2) → (d = 2 ∨ d = -1 ∨ d = 3) → ((rootIn 1 ((), d) (i, j)).isNone || !nonB (rootQ (i * i - j * j * d) 1)) = true := by
    intro i j d hi hj hd
    rcases hd with rfl | rfl | rfl <;> rcases hi with rfl | rfl | rfl | rfl | rfl <;> rcases hj with rfl | rfl | rfl | rfl | rfl <;> decide +kernel
  obtain ⟨u, d⟩ := r
  obtain ⟨i, j⟩ := b
  have h1 := e i j d (five h.1.1 h.1.2) (five h.2.1 h.2.2) hr
  rw [Bool.or_eq_true] at h1
  rcases h1 with h1 | h1
  · exact absurd (Option.isNone_iff_eq_none.mp h1) hn
  · simpa using h1
theorem mx_bd2 : ∀ {l : Nat} {x : T l}, Mx l 3 x → Bd l 2 x
  | 0, x, h => by
    have h1 : -3 ≤ (show Int from x) := h.1
    have h2 : (show Int from x) ≤ 3 := h.2
    show (show Int from x).natAbs < 2 ^ 2
    omega
  | l + 1, x, h => ⟨mx_bd2 h.1, mx_bd2 h.2⟩
theorem cc2' {l : Nat} (h : l ≤ 2) : cc l ≤ 12 := cc2 h
theorem cap31 {l : Nat} (h : l ≤ 2) : 31 ≤ capP l := by
  match l, h with
  | 0, _ => decide
  | 1, _ => decide
  | 2, _ => decide
theorem root_T {l : Nat} {r : Rt l} {y : T l} {CR : Addr} {K : D → Nat → Prop} {X : XD → Nat → Prop} {n : Nat} {rs x : D} (hl : l ≤ 2) (hr : RB l r) (hg : goodR l r = true) (h1 : tupled rs = rD l r) (h2 : okDp 6 rs = true) (h3 : tupled x = dT l y) (h4 : okDp 6 x = true) (hy : Bd l 31 y) (h : K (optT l (rootIn l r y)) n) : w_grid_root CR [rs, x] K X n :=
  ⟨rs, x, rfl, h2, h4, .inl ⟨l, r, y, ⟨h1, by omega, hr, hg⟩, hl, h3, hy.mono (cap31 hl), h⟩⟩
theorem okD_T {l : Nat} (hl : l ≤ 2) (x : T l) : okDp 6 (dT l x) = true := okDp_mono (okDp_T l x) (by omega)
theorem root_T' {l : Nat} {r : Rt l} {y : T l} {CR : Addr} {K : D → Nat → Prop} {X : XD → Nat → Prop} {n : Nat} (hl : l ≤ 2) (hr : RB l r) (hg : goodR l r = true) (hy : Bd l 31 y) (h : K (optT l (rootIn l r y)) n) : w_grid_root CR [rD l r, dT l y] K X n :=
  root_T hl hr hg (tupled_rD l r) (okDp_rD (by omega) r) (tupled_T l y) (okD_T hl y) hy h
theorem okV_T {l : Nat} (hl : l ≤ 2) (x : T l) : okV (dT l x) := by
  obtain ⟨⟨h1, _⟩, h2, h3⟩ := eqOk_T l x (by omega)
  exact ⟨h1, h2, by omega⟩
theorem dep_T {l : Nat} (hl : l ≤ 2) (x : T l) : (pyD (dT l x)).depth ≤ 2 := by
  obtain ⟨_, _, h3⟩ := eqOk_T l x (by omega)
  omega
theorem okV_tup {ds : List D} (h : ∀ d ∈ ds, flatD d = true ∧ (pyD d).canLay0 = true ∧ (pyD d).depth ≤ 2) : okV (.tup ds) ∧ okV (.lst ds) := by
  have key : ∀ es : List D, (∀ d ∈ es, flatD d = true ∧ (pyD d).canLay0 = true ∧ (pyD d).depth ≤ 2) → flatL es = true ∧ PyData.canLayAll0 (pyL es) = true ∧ PyData.depthAll (pyL es) ≤ 2 := by
    intro es
    induction es with
    | nil => intro _; simp [flatL, pyL, PyData.canLayAll0, PyData.depthAll]
    | cons e es ih =>
      intro h
      obtain ⟨a1, a2, a3⟩ := h e List.mem_cons_self
      obtain ⟨b1, b2, b3⟩ := ih fun d hd => h d (List.mem_cons_of_mem _ hd)
      refine ⟨?_, ?_, ?_⟩
      · simp [flatL, a1, b1]
      · simp [pyL, PyData.canLayAll0, a2, b2]
      · simp [pyL, PyData.depthAll]
        omega
  obtain ⟨k1, k2, k3⟩ := key ds h
  refine ⟨⟨?_, ?_, ?_⟩, ?_, ?_, ?_⟩
  · simp [flatD, k1]
  · simp [pyD, PyData.canLay0, k2]
  · simp [pyD, PyData.depth]
    omega
  · simp [flatD, k1]
  · simp [pyD, PyData.canLay0, k2]
  · simp [pyD, PyData.depth]
    omega
theorem dT_ok {l : Nat} (hl : l ≤ 2) (x : T l) : flatD (dT l x) = true ∧ (pyD (dT l x)).canLay0 = true ∧ (pyD (dT l x)).depth ≤ 2 := ⟨(okV_T hl x).1, (okV_T hl x).2.1, dep_T hl x⟩
theorem int_ok (i : Int) : flatD (.int i) = true ∧ (pyD (.int i)).canLay0 = true ∧ (pyD (.int i)).depth ≤ 2 := ⟨rfl, rfl, by simp [pyD, PyData.depth]⟩
theorem bl_ok (b : Bool) : flatD (.bl b) = true ∧ (pyD (.bl b)).canLay0 = true ∧ (pyD (.bl b)).depth ≤ 2 := ⟨rfl, rfl, by simp [pyD, PyData.depth]⟩
theorem okDp_seq {ds : List D} (hl : ds.length ≤ 1000) (h : ∀ d ∈ ds, okDp 5 d = true) : okDp 6 (.tup ds) = true ∧ okDp 6 (.lst ds) = true := by
  have e : (decide (ds.length ≤ 1000) && ds.all (okDp 5)) = true := by
    rw [decide_eq_true hl, Bool.true_and, List.all_eq_true]
    exact h
  exact ⟨e, e⟩
theorem okD5_T {l : Nat} (hl : l ≤ 2) (x : T l) : okDp 5 (dT l x) = true := okDp_mono (okDp_T l x) (by omega)
/-- a value that is asked of -/
def Cls (l : Nat) (v : D) : Prop := (okDp 6 v = true ∧ okV v) ∧ (v = .non ∨ badV l v ∨ ∃ p q : T l, v = .tup [dT l p, dT l q] ∧ Bd l 94000 p ∧ Bd l 94000 q)
theorem cls_ans {l : Nat} {v : D} (c : Cls l v) (r : Rt l) (y : T l) (nn : Bool) : ∃ B : Bool, ∀ (K : D → Nat → Prop) (n : Nat), K (.bl B) n → isK l r y v nn K n := by
  rcases c.2 with h | h | ⟨p, q, h, hp, hq⟩
  · exact ⟨nn, fun K n hk => .inl ⟨h, hk⟩⟩
  · exact ⟨false, fun K n hk => .inr (.inl ⟨h, hk⟩)⟩
  · exact ⟨rootB l r y p q, fun K n hk => .inr (.inr ⟨p, q, h, hp, hq, hk⟩)⟩
theorem cls_non {l : Nat} : Cls l .non := ⟨⟨rfl, rfl, rfl, by simp [pyD, PyData.depth]⟩, .inl rfl⟩
theorem cls_int {l : Nat} {i : Int} : Cls l (.int i) := ⟨⟨rfl, rfl, rfl, by simp [pyD, PyData.depth]⟩, .inr (.inl ⟨by simp, .inl rfl⟩)⟩
theorem cls_pair {l : Nat} (hl : l ≤ 2) {p q : T l} (hp : Bd l 94000 p) (hq : Bd l 94000 q) : Cls l (.tup [dT l p, dT l q]) :=
  ⟨⟨(okDp_seq (by simp) (by simp [okD5_T hl])).1, (okV_tup (by simp [dT_ok hl])).1⟩, .inr (.inr ⟨p, q, rfl, hp, hq⟩)⟩
theorem isPl_up : ∀ {l : Nat} {x : T l}, l ≤ 1 → isPl (l + 1) (dT l x) = false
  | 0, x, _ => rfl
  | 1, x, _ => rfl
theorem cls_T {l : Nat} (hl : l ≤ 2) {x : T l} : Cls l (dT l x) := by
  refine ⟨⟨okD_T hl x, okV_T hl x⟩, .inr (.inl ?_)⟩
  match l, hl, x with
  | 0, _, x => exact ⟨by simp [dT], .inl rfl⟩
  | l + 1, hl, x =>
    refine ⟨by simp [dT_succ], .inr ⟨dT l x.1, dT l x.2, rfl, ?_⟩⟩
    rw [isPl_up (by omega)]
    rfl
theorem cls_one {l : Nat} (hl : l ≤ 2) {x : T l} : Cls l (.tup [dT l x]) :=
  ⟨⟨(okDp_seq (by simp) (by simp [okD5_T hl])).1, (okV_tup (by simp [dT_ok hl])).1⟩, .inr (.inl ⟨by simp, .inl rfl⟩)⟩
theorem cls_lst {l : Nat} (hl : l ≤ 2) {x y : T l} : Cls l (.lst [dT l x, dT l y]) :=
  ⟨⟨(okDp_seq (by simp) (by simp [okD5_T hl])).2, (okV_tup (by simp [dT_ok hl])).2⟩, .inr (.inl ⟨by simp, .inl rfl⟩)⟩
theorem cls_a1 {l : Nat} (hl : l ≤ 2) {x : T l} (hx : Bd l 31 x) : Cls l (.tup [dT l x, .int 1]) := by
  match l, hl, x, hx with
  | 0, hl, x, hx => exact cls_pair (l := 0) (p := x) (q := (1 : Int)) (by omega) (hx.mono (by decide)) (Bd.mono (p := 3) (show (1 : Int).natAbs < 2 ^ 3 by decide) (by decide))
  | l + 1, hl, x, hx =>
    refine ⟨⟨(okDp_seq (by simp) ?_).1, (okV_tup ?_).1⟩, .inr (.inl ⟨by simp, .inr ⟨_, _, rfl, ?_⟩⟩)⟩
    · intro d hd
      simp only [List.mem_cons, List.not_mem_nil, or_false] at hd
      rcases hd with rfl | rfl
      · exact okD5_T hl x
      · rfl
    · intro d hd
      simp only [List.mem_cons, List.not_mem_nil, or_false] at hd
      rcases hd with rfl | rfl
      · exact dT_ok hl x
      · exact int_ok 1
    · show (isPl (l + 1) _ && false) = false
      rw [Bool.and_false]
theorem cls_str {l : Nat} : Cls l (.str "11") := ⟨⟨rfl, rfl, by decide +kernel, by decide +kernel⟩, .inr (.inl ⟨by simp, .inl rfl⟩)⟩
theorem cls_t1 {l : Nat} : Cls l (.tup [.bl true, .int 1]) := by
  refine ⟨⟨by decide +kernel, (okV_tup ?_).1⟩, .inr (.inl ⟨by simp, .inr ⟨_, _, rfl, ?_⟩⟩)⟩
  · intro d hd
    simp only [List.mem_cons, List.not_mem_nil, or_false] at hd
    rcases hd with rfl | rfl
    · exact bl_ok true
    · exact int_ok 1
  · match l with
    | 0 => rfl
    | l + 1 => rfl
theorem cls_opt {l : Nat} (hl : l ≤ 2) {r : Rt l} {y : T l} (hr : RB l r) (hy : Bd l 31 y) : Cls l (optT l (rootIn l r y)) := by
  cases e : rootIn l r y with
  | none => exact cls_non
  | some g =>
    obtain ⟨b1, b2⟩ := told_bd hl hr (hy.mono (cap31 hl)) e
    exact cls_pair hl (b1.mono (by decide)) (b2.mono (by decide))
theorem root_is {l : Nat} {r : Rt l} (c : Chain l r) {x : T l} {g : T l × T l} (h : rootIn l r x = some g) : rootB l r x g.1 g.2 = true := by
  obtain ⟨h1, h2⟩ := root_ok c h
  unfold rootB
  rw [h1, h2]
  simp
/-- what is told is due -/
theorem due_T {l : Nat} {r : Rt l} {y : T l} {v : D} {nn : Bool} {K : D → Nat → Prop} {X : XD → Nat → Prop} {n : Nat} (hl : l ≤ 2) (hr : RB l r) (hg : goodR l r = true) (hy : Bd l 31 y) (c : Cls l v) (h : isK l r y v nn K n) : w__law_due [rD l r, dT l y, v, .bl nn] K X n :=
  ⟨l, r, y, v, nn, rfl, ⟨hl, hr, hg, hy, c.1.1, c.1.2⟩, h⟩
theorem is_T {l : Nat} {r : Rt l} {y : T l} {v : D} {CR : Addr} {K : D → Nat → Prop} {X : XD → Nat → Prop} {n : Nat} (hl : l ≤ 2) (hr : RB l r) (hg : goodR l r = true) (hy : Bd l 31 y) (c : Cls l v) (h : isK l r y v (rootIn l r y).isNone K n) : w_is_grid_root CR [rD l r, dT l y, v] K X n :=
  ⟨_, _, v, rfl, okDp_rD (by omega) r, okD_T hl y, c.1.1, .inl ⟨l, r, y, ⟨tupled_rD l r, by omega, hr, hg⟩, hl, tupled_T l y, hy.mono (cap31 hl), h⟩⟩
/-- a row that is asked: number, right, none -/
def RowOk (l : Nat) (r : Rt l) (t : D) : Prop := ∃ y : T l, Bd l 31 y ∧ t = .tup [dT l y, optT l (rootIn l r y), .bl (rootIn l r y).isNone]
theorem opt_cases {α : Type} (o : Option α) : o = none ∨ ∃ g, o = some g := by
  cases o with
  | none => exact .inl rfl
  | some g => exact .inr ⟨g, rfl⟩
theorem nonB_opt {l : Nat} (o : OT l) : nonB (optT l o) = o.isNone := by cases o <;> rfl
theorem isNone_same {α β : Type} {o : Option α} {q : Option β} (h : o = none ↔ q = none) : o.isNone = q.isNone := by
  cases o <;> cases q <;> simp_all
theorem small1000 {i : Int} (h : i.natAbs ≤ 100) : i.natAbs < 2 ^ 1000 := Nat.lt_of_lt_of_le (m := 2 ^ 7) (Nat.lt_of_le_of_lt h (by decide)) (Nat.pow_le_pow_right (by decide) (by decide))
theorem small200 {i : Int} (h : i.natAbs ≤ 100) : Big i := Nat.lt_of_lt_of_le (m := 2 ^ 7) (Nat.lt_of_le_of_lt h (by decide)) (Nat.pow_le_pow_right (by decide) (by decide))
theorem low_ok {r : Rt 1} {i : Int} (hr : Low 1 r) (h1 : -2 ≤ i) (h2 : i ≤ 2) : (lowI i (show Int from r.2)).1.natAbs ≤ 100 ∧ (lowI i (show Int from r.2)).2.natAbs ≤ 100 ∧ 0 ≤ (lowI i (show Int from r.2)).2 := by
  have e : ∀ i d : Int, (i = -2 ∨ i = -1 ∨ i = 0 ∨ i = 1 ∨ i = 2) → (d = 2 ∨ d = -1 ∨ d = 3) → (lowI i d).1.natAbs ≤ 100 ∧ (lowI i d).2.natAbs ≤ 100 ∧ 0 ≤ (lowI i d).2 := by
    intro i d hi hd
    rcases hd with rfl | rfl | rfl <;> rcases hi with rfl | rfl | rfl | rfl | rfl <;> decide +kernel
  exact e i _ (five h1 h2) hr
theorem low_d {r : Rt 1} (hr : Low 1 r) : (show Int from r.2).natAbs ≤ 100 ∧ (show Int from r.2) ≠ 0 := by
  have e : ∀ d : Int, (d = 2 ∨ d = -1 ∨ d = 3) → d.natAbs ≤ 100 ∧ d ≠ 0 := by
    intro d hd
    rcases hd with rfl | rfl | rfl <;> decide
  exact e _ hr
theorem sq_ok {r : Rt 1} {b : T 1} (hr : Low 1 r) (h : Mx 1 2 b) : ((show Int from b.1) * (show Int from b.1) - (show Int from b.2) * (show Int from b.2) * (show Int from r.2)).natAbs ≤ 100 := by
  have e : ∀ i j d : Int, (i = -2 ∨ i = -1 ∨ i = 0 ∨ i = 1 ∨ i = 2) → (j = -2 ∨ j = -1 ∨ j = 0 ∨ j = 1 ∨ j = 2) → (d = 2 ∨ d = -1 ∨ d = 3) → (i * i - j * j * d).natAbs ≤ 100 := by
    intro i j d hi hj hd
    rcases hd with rfl | rfl | rfl <;> rcases hi with rfl | rfl | rfl | rfl | rfl <;> rcases hj with rfl | rfl | rfl | rfl | rfl <;> decide +kernel
  exact e _ _ _ (five h.1.1 h.1.2) (five h.2.1 h.2.2) hr
theorem one_facts {r : Rt 1} {b : T 1} (hr : Low 1 r) (hb : Mx 1 2 b) : ∃ i j d : Int, dT 1 b = .tup [.int i, .int j] ∧ rD 1 r = .tup [.int d] ∧ (i.natAbs ≤ 100 ∧ j.natAbs ≤ 100 ∧ d.natAbs ≤ 100 ∧ d ≠ 0) ∧
    ((lowI i d).1.natAbs ≤ 100 ∧ (lowI i d).2.natAbs ≤ 100 ∧ 0 ≤ (lowI i d).2) ∧ (j = 0 → nonB (optT 1 (rootIn 1 r b)) = (nonB (rootQ i 1) && nonB (rootQ (lowI i d).1 (lowI i d).2))) ∧
    ((i * i - j * j * d).natAbs ≤ 100) ∧ (rootIn 1 r b ≠ none → nonB (rootQ (i * i - j * j * d) 1) = false) := by
  have i1 : -2 ≤ (show Int from b.1) := hb.1.1
  have i2 : (show Int from b.1) ≤ 2 := hb.1.2
  have j1 : -2 ≤ (show Int from b.2) := hb.2.1
  have j2 : (show Int from b.2) ≤ 2 := hb.2.2
  have hd := low_d hr
  refine ⟨b.1, b.2, r.2, rfl, rfl, ⟨?_, ?_, hd.1, hd.2⟩, low_ok hr i1 i2, fun h => ?_, sq_ok hr hb, chk1b hr hb⟩
  · show (show Int from b.1).natAbs ≤ 100
    omega
  · show (show Int from b.2).natAbs ≤ 100
    omega
  · rw [nonB_opt]
    exact chk1a hr hb h

section
variable {P : Program} {w : World} {K : PySem.W.Frag} {mg : Str → Option Value} {base : Heap}
variable {C_BadNumber C_BadPoly C_BadRow C_TooMany C_Unlike : Addr}
variable {TK_MOST_LEVEL : Tok}


theorem ok_is_whole  (F : DefF K mg "is_whole" s_is_whole ["value"]) (m_bool : mg "bool" = none) (m_isinstance : mg "isinstance" = none) (m_int : mg "int" = none) : DefG P w K mg base "is_whole" ["value"] (0 + 1) w_is_whole := by
  refine def_ok (k := 0) F sc_is_whole (fun f cdv A outer s H E hg hr => (DSs.one (DS.ret (DE.and (DE.isi1 (fun _ => rfl) (fun _ => pe_bltn (v := .ty "int") (by rfl) m_int (by decide +kernel) rfl) (.ty "int") (fun _ => by rfl) (fun _ => m_isinstance) (DE.var fun _ => pv 0)) (DE.one (DE.not (DE.isi1 (fun _ => rfl) (fun _ => pe_bltn (v := .ty "bool") (by rfl) m_bool (by decide +kernel) rfl) (.ty "bool") (fun _ => by rfl) (fun _ => m_isinstance) (DE.var fun _ => pv 0)))))))) fun ds Kd Kx n hl h => ?_
  match ds, hl with
  | [d], _ =>
  obtain ⟨hb, hk⟩ := h
  simp only [g_tup2, g_tup3, fNotN_at, fIsN_at, List.getElem?_cons_succ, List.getElem?_cons_zero, s_par3, s_lc, fCut_at, fAdd_lst, fAdd_tup, fList_lst, fList_tup, fTuple_lst, fMul_lst, items_lst, items_tup, range2_at, zip_at, s_body, s_seq, s_next, s_onE, s_onT, s_asg, s_par, s_for, s_raise, s_try, s_asgG, w_bind, w_pure, w_need, w_fail, w_calm, g_0, g_s, fEq_int, fNe_int, fEq_str, fNe_str, fInt_at, fInt0_at, fAdd_int, fCmp_at, fNeg_at, fLen_tup, fLen_lst, fIx_t0, fIx_l0, fIx_t1, fIx_l1, fIntC_at, fAbs_at, fGcd_at, fRepr_at, fBits_at, fIs_at, range_at, List.map_cons, List.map_nil, List.length_cons, List.length_nil, List.cons_append, List.nil_append, List.set_cons_zero, List.set_cons_succ, List.replicate, Nat.reduceAdd, Nat.reduceSub, List.append_nil, dName, true_and, and_true, Nat.zero_add, Nat.sub_self]
  rw [isi_int hb]
  cases d <;> simp only [intB] <;> first | exact hk | (simp only [g_tup2, g_tup3, fNotN_at, fIsN_at, List.getElem?_cons_succ, List.getElem?_cons_zero, s_par3, s_lc, fCut_at, fAdd_lst, fAdd_tup, fList_lst, fList_tup, fTuple_lst, fMul_lst, items_lst, items_tup, range2_at, zip_at, s_body, s_seq, s_next, s_onE, s_onT, s_asg, s_par, s_for, s_raise, s_try, s_asgG, w_bind, w_pure, w_need, w_fail, w_calm, g_0, g_s, fEq_int, fNe_int, fEq_str, fNe_str, fInt_at, fInt0_at, fAdd_int, fCmp_at, fNeg_at, fLen_tup, fLen_lst, fIx_t0, fIx_l0, fIx_t1, fIx_l1, fIntC_at, fAbs_at, fGcd_at, fRepr_at, fBits_at, fIs_at, range_at, List.map_cons, List.map_nil, List.length_cons, List.length_nil, List.cons_append, List.nil_append, List.set_cons_zero, List.set_cons_succ, List.replicate, Nat.reduceAdd, Nat.reduceSub, List.append_nil, dName, true_and, and_true, Nat.zero_add, Nat.sub_self]; rw [isi_bool hb]; exact hk)


theorem ok_in_tuples {j : Nat} (F : DefF K mg "in_tuples" s_in_tuples ["value"]) (m_tuple : mg "tuple" = none) (h_in_tuples : DefG P w K mg base "in_tuples" ["value"] (j + 1) (w_in_tuples j)) (m_list : mg "list" = none) (m_isinstance : mg "isinstance" = none) : DefG P w K mg base "in_tuples" ["value"] (j + 1 + 1) (w_in_tuples (j + 1)) := by
  obtain ⟨f_in_tuples, d_in_tuples, G_in_tuples, n_in_tuples, q_in_tuples, b_in_tuples⟩ := h_in_tuples.ex
  refine def_ok (k := j + 1) F sc_in_tuples (fun f cdv A outer s H E hg hr => (DSs.cons (DS.ifS (DT.not (DT.val (DE.isiT (fun _ => rfl) (fun _ => (pa_cons (pe_bltn (v := .ty "tuple") (by rfl) m_tuple (by decide +kernel) rfl) (pa_cons (pe_bltn (v := .ty "list") (by rfl) m_list (by decide +kernel) rfl) pa_nil))) (fun _ _ _ q => q) (.cons (.ty "tuple") (.cons (.ty "list") .nil)) (by decide) (fun _ => by rfl) (fun _ => m_isinstance) (DE.var fun _ => pv 0)))) (DSs.one (DS.ret (DE.var fun _ => pv 0))) DSs.nil)
    (DSs.one (DS.ret (DE.opL (fun _ _ ha => pe_callTy call_tuple_of (by rfl) m_tuple (by decide +kernel) ha) sem_tuple (DA.cons (DE.lc (own := [("item", 1)]) (fun _ => rfl) (fun _ => sc_in_tuples.nd) (DI.seq (fun _ => rfl) (DE.var fun _ => pv 0)) (fun _ => blkOk_by (N := ["value", "item"]) (sc := defScope s_in_tuples) (by decide +kernel)) (DG.name (k := 1) (fun _ => pg_name sc_in_tuples.nd rfl (.inl rfl))) DTs.nil (DE.call (fun _ => G_in_tuples) (fun _ => hg) (fun _ => hr.mono (by omega)) (fun _ => L2.takes0) (fun _ => by rfl) (fun _ => n_in_tuples) (fun _ => q_in_tuples) (fun _ => b_in_tuples) (DA.cons (DE.var fun _ => pv 1) DA.nil))) DA.nil)))))) fun ds Kd Kx n hl h => ?_
  match ds, hl with
  | [d], _ =>
  obtain ⟨hb, hk⟩ := h
  simp only [g_tup2, g_tup3, fNotN_at, fIsN_at, List.getElem?_cons_succ, List.getElem?_cons_zero, s_par3, s_lc, fCut_at, fAdd_lst, fAdd_tup, fList_lst, fList_tup, fTuple_lst, fMul_lst, items_lst, items_tup, range2_at, zip_at, s_body, s_seq, s_next, s_onE, s_onT, s_asg, s_par, s_for, s_raise, s_try, s_asgG, w_bind, w_pure, w_need, w_fail, w_calm, g_0, g_s, fEq_int, fNe_int, fEq_str, fNe_str, fInt_at, fInt0_at, fAdd_int, fCmp_at, fNeg_at, fLen_tup, fLen_lst, fIx_t0, fIx_l0, fIx_t1, fIx_l1, fIntC_at, fAbs_at, fGcd_at, fRepr_at, fBits_at, fIs_at, range_at, List.map_cons, List.map_nil, List.length_cons, List.length_nil, List.cons_append, List.nil_append, List.set_cons_zero, List.set_cons_succ, List.replicate, Nat.reduceAdd, Nat.reduceSub, List.append_nil, dName, true_and, and_true, Nat.zero_add, Nat.sub_self]
  rw [isi_tl (okDp_base hb)]
  cases d with
  | tup es =>
    obtain ⟨h1, h2⟩ := okDp_tup hb
    unfold tupled at hk
    rw [tupledL_map] at hk
    simp only [g_tup2, g_tup3, fNotN_at, fIsN_at, List.getElem?_cons_succ, List.getElem?_cons_zero, s_par3, s_lc, fCut_at, fAdd_lst, fAdd_tup, fList_lst, fList_tup, fTuple_lst, fMul_lst, items_lst, items_tup, range2_at, zip_at, s_body, s_seq, s_next, s_onE, s_onT, s_asg, s_par, s_for, s_raise, s_try, s_asgG, w_bind, w_pure, w_need, w_fail, w_calm, g_0, g_s, fEq_int, fNe_int, fEq_str, fNe_str, fInt_at, fInt0_at, fAdd_int, fCmp_at, fNeg_at, fLen_tup, fLen_lst, fIx_t0, fIx_l0, fIx_t1, fIx_l1, fIntC_at, fAbs_at, fGcd_at, fRepr_at, fBits_at, fIs_at, range_at, List.map_cons, List.map_nil, List.length_cons, List.length_nil, List.cons_append, List.nil_append, List.set_cons_zero, List.set_cons_succ, List.replicate, Nat.reduceAdd, Nat.reduceSub, List.append_nil, dName, true_and, and_true, Nat.zero_add, Nat.sub_self]
    refine ifF (by simp [tupB]) ?_
    refine lcD_map (f := tupled) es [] _ (by rw [sizeLine_eq]; simp; omega) (fun t ht => ⟨_, rfl, fun K' hK => ?_⟩) ?_
    · exact ⟨rfl, h2 t ht, hK⟩
    · exact hk
  | lst es =>
    obtain ⟨h1, h2⟩ := okDp_lst hb
    unfold tupled at hk
    rw [tupledL_map] at hk
    simp only [g_tup2, g_tup3, fNotN_at, fIsN_at, List.getElem?_cons_succ, List.getElem?_cons_zero, s_par3, s_lc, fCut_at, fAdd_lst, fAdd_tup, fList_lst, fList_tup, fTuple_lst, fMul_lst, items_lst, items_tup, range2_at, zip_at, s_body, s_seq, s_next, s_onE, s_onT, s_asg, s_par, s_for, s_raise, s_try, s_asgG, w_bind, w_pure, w_need, w_fail, w_calm, g_0, g_s, fEq_int, fNe_int, fEq_str, fNe_str, fInt_at, fInt0_at, fAdd_int, fCmp_at, fNeg_at, fLen_tup, fLen_lst, fIx_t0, fIx_l0, fIx_t1, fIx_l1, fIntC_at, fAbs_at, fGcd_at, fRepr_at, fBits_at, fIs_at, range_at, List.map_cons, List.map_nil, List.length_cons, List.length_nil, List.cons_append, List.nil_append, List.set_cons_zero, List.set_cons_succ, List.replicate, Nat.reduceAdd, Nat.reduceSub, List.append_nil, dName, true_and, and_true, Nat.zero_add, Nat.sub_self]
    refine ifF (by simp [tupB, lstB]) ?_
    refine lcD_map (f := tupled) es [] _ (by rw [sizeLine_eq]; simp; omega) (fun t ht => ⟨_, rfl, fun K' hK => ?_⟩) ?_
    · exact ⟨rfl, h2 t ht, hK⟩
    · exact hk
  | non => exact hk
  | bl b => exact hk
  | int i => exact hk
  | str x => exact hk
  | _ => cases hb
theorem in_tuples_0 {ds : List D} {Kd : D → Nat → Prop} {Kx : XD → Nat → Prop} {n : Nat} (h : w_in_tuples 0 ds Kd Kx n) : False := by
  match ds, h with
  | [d], h => exact absurd h.1 (by simp [okDp])
theorem rec_in_tuples (F : DefF K mg "in_tuples" s_in_tuples ["value"]) (m_tuple : mg "tuple" = none) (m_list : mg "list" = none) (m_isinstance : mg "isinstance" = none) : DefG P w K mg base "in_tuples" ["value"] 7 (w_in_tuples 6) := by
  have go : ∀ j, DefG P w K mg base "in_tuples" ["value"] (j + 1) (w_in_tuples j) := by
    intro j
    induction j with
    | zero => exact def_false F fun ds Kd Kx n h => in_tuples_0 h
    | succ j ih => exact ok_in_tuples F m_tuple ih m_list m_isinstance
  exact go 6

theorem ok_is_tuple_of  (F : DefF K mg "is_tuple_of" s_is_tuple_of ["value", "many"]) (m_len : mg "len" = none) (m_tuple : mg "tuple" = none) (m_isinstance : mg "isinstance" = none) : DefG P w K mg base "is_tuple_of" ["value", "many"] (0 + 1) w_is_tuple_of := by
  refine def_ok (k := 0) F sc_is_tuple_of (fun f cdv A outer s H E hg hr => (DSs.one (DS.ret (DE.and (DE.isi1 (fun _ => rfl) (fun _ => pe_bltn (v := .ty "tuple") (by rfl) m_tuple (by decide +kernel) rfl) (.ty "tuple") (fun _ => by rfl) (fun _ => m_isinstance) (DE.var fun _ => pv 0)) (DE.one (DE.cmp (fun _ => op_eqA hr.units) sem_eqA (DE.opL (fun _ _ ha => pe_callB call_lenA (by rfl) m_len (by decide +kernel) ha) sem_len (DA.cons (DE.var fun _ => pv 0) DA.nil)) (DE.var fun _ => pv 1))))))) fun ds Kd Kx n hl h => ?_
  match ds, hl with
  | [d, y], _ =>
  cases y with
  | int k =>
    obtain ⟨hb, hk⟩ := h
    simp only [g_tup2, g_tup3, fNotN_at, fIsN_at, List.getElem?_cons_succ, List.getElem?_cons_zero, s_par3, s_lc, fCut_at, fAdd_lst, fAdd_tup, fList_lst, fList_tup, fTuple_lst, fMul_lst, items_lst, items_tup, range2_at, zip_at, s_body, s_seq, s_next, s_onE, s_onT, s_asg, s_par, s_for, s_raise, s_try, s_asgG, w_bind, w_pure, w_need, w_fail, w_calm, g_0, g_s, fEq_int, fNe_int, fEq_str, fNe_str, fInt_at, fInt0_at, fAdd_int, fCmp_at, fNeg_at, fLen_tup, fLen_lst, fIx_t0, fIx_l0, fIx_t1, fIx_l1, fIntC_at, fAbs_at, fGcd_at, fRepr_at, fBits_at, fIs_at, range_at, List.map_cons, List.map_nil, List.length_cons, List.length_nil, List.cons_append, List.nil_append, List.set_cons_zero, List.set_cons_succ, List.replicate, Nat.reduceAdd, Nat.reduceSub, List.append_nil, dName, true_and, and_true, Nat.zero_add, Nat.sub_self]
    rw [isi_tuple hb]
    cases d with
    | tup es => exact hk
    | _ => exact hk
  | _ => exact h.elim


theorem ok_whole_root  (F : DefF K mg "whole_root" s_whole_root ["number"]) : DefG P w K mg base "whole_root" ["number"] (0 + 1) w_whole_root := by
  refine def_ok (k := 0) F sc_whole_root (fun f cdv A outer s H E hg hr => (DSs.cons (DS.ifS (DT.cmp (fun _ => op_lt) sem_cmpI (DE.var fun _ => pv 0) DE.int) (DSs.one (DS.ret DE.non)) DSs.nil)
    (DSs.cons (DS.par (i := 1) (j := 2) (fun _ => rfl) (fun _ => sc_whole_root.nd) (fun _ => rfl) (fun _ => rfl) (by decide) (fun _ => rfl) (fun _ => rfl) (DA.cons DE.int (DA.cons (DE.op2 (fun _ _ _ p q => pe_op op_addA p q) sem_add (DE.var fun _ => pv 0) DE.int) DA.nil)) (fun _ => by rfl))
    (DSs.cons (DS.while (fun _ => passes_of rfl) (DT.cmp (fun _ => op_gt) sem_cmpI (DE.op2 (fun _ _ _ p q => pe_op op_sub p q) sem_int0 (DE.var fun _ => pv 2) (DE.var fun _ => pv 1)) DE.int) (DSs.cons (DS.set (k := 3) (fun _ => sc_whole_root.nd) (fun _ => rfl) (fun _ => (.inl rfl)) (DE.op2 (fun _ _ _ p q => pe_op op_fdivA p q) sem_int (DE.op2 (fun _ _ _ p q => pe_op op_addA p q) sem_add (DE.var fun _ => pv 1) (DE.var fun _ => pv 2)) DE.int))
    (DSs.one (DS.ifS (DT.cmp (fun _ => op_le) sem_cmpI (DE.op2 (fun _ _ _ p q => pe_op op_mulW p q) sem_int (DE.var fun _ => pv 3) (DE.var fun _ => pv 3)) (DE.var fun _ => pv 0)) (DSs.one (DS.set (k := 1) (fun _ => sc_whole_root.nd) (fun _ => rfl) (fun _ => (.inl rfl)) (DE.var fun _ => pv 3))) (DSs.one (DS.set (k := 2) (fun _ => sc_whole_root.nd) (fun _ => rfl) (fun _ => (.inl rfl)) (DE.var fun _ => pv 3)))))))
    (DSs.one (DS.ret (DE.ifExp (DT.cmp (fun _ => op_eqA hr.units) sem_eqA (DE.op2 (fun _ _ _ p q => pe_op op_mulW p q) sem_int (DE.var fun _ => pv 1) (DE.var fun _ => pv 1)) (DE.var fun _ => pv 0)) (DE.var fun _ => pv 1) DE.non))))))) fun ds Kd Kx n hl h => ?_
  match ds, hl with
  | [y], _ =>
  cases y with
  | int i =>
    obtain ⟨hb, hk⟩ := h
    simp only [g_tup2, g_tup3, fNotN_at, fIsN_at, List.getElem?_cons_succ, List.getElem?_cons_zero, s_par3, s_lc, fCut_at, fAdd_lst, fAdd_tup, fList_lst, fList_tup, fTuple_lst, fMul_lst, items_lst, items_tup, range2_at, zip_at, s_body, s_seq, s_next, s_onE, s_onT, s_asg, s_par, s_for, s_raise, s_try, s_asgG, w_bind, w_pure, w_need, w_fail, w_calm, g_0, g_s, fEq_int, fNe_int, fEq_str, fNe_str, fInt_at, fInt0_at, fAdd_int, fCmp_at, fNeg_at, fLen_tup, fLen_lst, fIx_t0, fIx_l0, fIx_t1, fIx_l1, fIntC_at, fAbs_at, fGcd_at, fRepr_at, fBits_at, fIs_at, range_at, List.map_cons, List.map_nil, List.length_cons, List.length_nil, List.cons_append, List.nil_append, List.set_cons_zero, List.set_cons_succ, List.replicate, Nat.reduceAdd, Nat.reduceSub, List.append_nil, dName, true_and, and_true, Nat.zero_add, Nat.sub_self]
    by_cases h0 : i < 0
    · refine ifT (by simpa using h0) ?_
      unfold rootO at hk
      rw [if_pos h0] at hk
      exact hk
    · refine ifF (by simpa using h0) ?_
      unfold rootO at hk
      rw [if_neg h0] at hk
      refine ⟨i.toNat + 2, whileD_inv (fun m ρ n' => n' = n ∧ ∃ (low high : Int) (z : Option SV), ρ = [some (.d (.int i)), some (.d (.int low)), some (.d (.int high)), z] ∧ 0 ≤ low ∧ low ≤ high ∧ high ≤ i + 1 ∧ high - low ≤ m ∧ bis m i low high = bis (i.toNat + 1) i 0 (i + 1)) (fun m ρ n' E' hi hnx hbk hrt hex => ?_) (i.toNat + 1) _ _ ⟨rfl, 0, i + 1, none, rfl, by omega, by omega, by omega, by omega, rfl⟩ _ (by omega)⟩
      obtain ⟨rfl, low, high, z, rfl, l0, l1, l2, l3, l4⟩ := hi
      have hsz : ∀ a : Int, 0 ≤ a → a ≤ i + 1 → CMulW a a := fun a a0 a1 => by
        have h1 : a.natAbs < 2 ^ 100001 := by
          have : a.natAbs ≤ i.natAbs + 1 := by omega
          have e : 2 ^ 100001 = 2 ^ 100000 + 2 ^ 100000 := by rw [Nat.pow_succ]; omega
          have : 0 < 2 ^ 100000 := Nat.two_pow_pos _
          rw [e]
          omega
        exact wide_mul (a := 100001) (b := 100001) h1 h1 (by decide) (by decide) (by decide)
      simp only [g_tup2, g_tup3, fNotN_at, fIsN_at, List.getElem?_cons_succ, List.getElem?_cons_zero, s_par3, s_lc, fCut_at, fAdd_lst, fAdd_tup, fList_lst, fList_tup, fTuple_lst, fMul_lst, items_lst, items_tup, range2_at, zip_at, s_body, s_seq, s_next, s_onE, s_onT, s_asg, s_par, s_for, s_raise, s_try, s_asgG, w_bind, w_pure, w_need, w_fail, w_calm, g_0, g_s, fEq_int, fNe_int, fEq_str, fNe_str, fInt_at, fInt0_at, fAdd_int, fCmp_at, fNeg_at, fLen_tup, fLen_lst, fIx_t0, fIx_l0, fIx_t1, fIx_l1, fIntC_at, fAbs_at, fGcd_at, fRepr_at, fBits_at, fIs_at, range_at, List.map_cons, List.map_nil, List.length_cons, List.length_nil, List.cons_append, List.nil_append, List.set_cons_zero, List.set_cons_succ, List.replicate, Nat.reduceAdd, Nat.reduceSub, List.append_nil, dName, true_and, and_true, Nat.zero_add, Nat.sub_self]
      by_cases hc : 1 < high - low
      · refine ifT (by simpa using hc) ?_
        have hm0 : m ≠ 0 := by omega
        obtain ⟨m', rfl⟩ : ∃ m', m = m' + 1 := ⟨m - 1, by omega⟩
        unfold bis at l4
        rw [if_pos hc] at l4
        have e : (low + high).fdiv 2 = (low + high) / 2 := Int.fdiv_eq_ediv_of_nonneg _ (by decide)
        refine ⟨⟨by decide, by decide⟩, hsz _ (by rw [e]; omega) (by rw [e]; omega), ?_⟩
        by_cases hq : (low + high).fdiv 2 * (low + high).fdiv 2 ≤ i
        · refine ifT (by simpa using hq) ?_
          rw [if_pos hq] at l4
          exact (hnx m' _ _ (by omega) ⟨rfl, _, _, _, rfl, by rw [e]; omega, by rw [e]; omega, by omega, by rw [e]; omega, l4⟩).1
        · refine ifF (by simpa using hq) ?_
          rw [if_neg hq] at l4
          exact (hnx m' _ _ (by omega) ⟨rfl, _, _, _, rfl, by omega, by rw [e]; omega, by rw [e]; omega, by rw [e]; omega, l4⟩).1
      · refine ifF (by simpa using hc) ?_
        have e : bis m i low high = low := by
          cases m with
          | zero => rfl
          | succ m => unfold bis; rw [if_neg hc]
        rw [← l4, e] at hk
        refine ⟨hsz _ l0 (by omega), ?_⟩
        by_cases hq : low * low = i
        · rw [if_pos hq] at hk
          rw [decide_eq_true hq]
          exact hk
        · rw [if_neg hq] at hk
          rw [decide_eq_false hq]
          exact hk
  | _ => exact h.elim


theorem ok_is_plain  (F : DefF K mg "is_plain" s_is_plain ["level", "value"]) (m_len : mg "len" = none) (h_is_whole : DefG P w K mg base "is_whole" ["value"] (1) w_is_whole) (h_is_tuple_of : DefG P w K mg base "is_tuple_of" ["value", "many"] (1) w_is_tuple_of) : DefG P w K mg base "is_plain" ["level", "value"] (1 + 1) w_is_plain := by
  obtain ⟨f_is_whole, d_is_whole, G_is_whole, n_is_whole, q_is_whole, b_is_whole⟩ := h_is_whole.ex
  obtain ⟨f_is_tuple_of, d_is_tuple_of, G_is_tuple_of, n_is_tuple_of, q_is_tuple_of, b_is_tuple_of⟩ := h_is_tuple_of.ex
  refine def_ok (k := 1) F sc_is_plain (fun f cdv A outer s H E hg hr => (DSs.cons (DS.own (k := 2) (fun _ => sc_is_plain.nd) (fun _ => rfl) (fun _ => (.inl rfl)) (DA.cons (DE.tup (DA.cons (DE.var fun _ => pv 0) (DA.cons (DE.var fun _ => pv 1) DA.nil))) DA.nil))
    (DSs.cons (DS.while (fun _ => passes_of rfl) (DT.cmp (fun _ => op_gt) sem_cmpI (DE.lenOwn (k := 2) (fun _ => rfl) (fun _ => by rfl) (fun _ => m_len) (fun _ => pv 2)) DE.int) (DSs.cons (DS.pop (k := 2) (fun _ => rfl) (fun _ => pv 2) (DG.tup (m := 2) (fun _ => rfl) (fun _ => rfl) (DGs.cons (DG.name (k := 3) (fun _ => pg_name sc_is_plain.nd rfl (.inl rfl))) (DGs.cons (DG.name (k := 4) (fun _ => pg_name sc_is_plain.nd rfl (.inl rfl))) DGs.nil))) (fun _ => pe_bm0 PySem.F.plainAttrs_list PySem.F.slot_list_pop PySem.F.type_list_pop mt_pop (pv 2)))
    (DSs.one (DS.ifS (DT.cmp (fun _ => op_eqA hr.units) sem_eqA (DE.var fun _ => pv 3) DE.int) (DSs.one (DS.ifS (DT.not (DT.val (DE.call (fun _ => G_is_whole) (fun _ => hg) (fun _ => hr.mono (by omega)) (fun _ => takes_of rfl rfl rfl rfl) (fun _ => by rfl) (fun _ => n_is_whole) (fun _ => q_is_whole) (fun _ => b_is_whole) (DA.cons (DE.var fun _ => pv 4) DA.nil)))) (DSs.one (DS.ret DE.bl)) DSs.nil)) (DSs.one (DS.ifS (DT.not (DT.val (DE.call (fun _ => G_is_tuple_of) (fun _ => hg) (fun _ => hr.mono (by omega)) (fun _ => takes_of rfl rfl rfl rfl) (fun _ => by rfl) (fun _ => n_is_tuple_of) (fun _ => q_is_tuple_of) (fun _ => b_is_tuple_of) (DA.cons (DE.var fun _ => pv 4) (DA.cons DE.int DA.nil))))) (DSs.one (DS.ret DE.bl)) (DSs.one (DS.ownCat (k := 2) (fun _ => sc_is_plain.nd) (fun _ => rfl) (fun _ => (.inl rfl)) (fun _ => pv 2) (DA.cons (DE.tup (DA.cons (DE.op2 (fun _ _ _ p q => pe_op op_sub p q) sem_int0 (DE.var fun _ => pv 3) DE.int) (DA.cons (DE.op2 (fun _ _ _ p q => pe_ix ix_seq p q (fun _ _ => rfl)) sem_ix (DE.var fun _ => pv 4) DE.int) DA.nil))) (DA.cons (DE.tup (DA.cons (DE.op2 (fun _ _ _ p q => pe_op op_sub p q) sem_int0 (DE.var fun _ => pv 3) DE.int) (DA.cons (DE.op2 (fun _ _ _ p q => pe_ix ix_seq p q (fun _ _ => rfl)) sem_ix (DE.var fun _ => pv 4) DE.int) DA.nil))) DA.nil))))))))))
    (DSs.one (DS.ret DE.bl))))) fun ds Kd Kx n hl h => ?_
  obtain ⟨l, d, rfl, ⟨hl3, hd⟩, hk⟩ := h
  simp only [g_tup2, g_tup3, fNotN_at, fIsN_at, List.getElem?_cons_succ, List.getElem?_cons_zero, s_par3, s_lc, fCut_at, fAdd_lst, fAdd_tup, fList_lst, fList_tup, fTuple_lst, fMul_lst, items_lst, items_tup, range2_at, zip_at, s_body, s_seq, s_next, s_onE, s_onT, s_asg, s_par, s_for, s_raise, s_try, s_asgG, w_bind, w_pure, w_need, w_fail, w_calm, g_0, g_s, fEq_int, fNe_int, fEq_str, fNe_str, fInt_at, fInt0_at, fAdd_int, fCmp_at, fNeg_at, fLen_tup, fLen_lst, fIx_t0, fIx_l0, fIx_t1, fIx_l1, fIntC_at, fAbs_at, fGcd_at, fRepr_at, fBits_at, fIs_at, range_at, List.map_cons, List.map_nil, List.length_cons, List.length_nil, List.cons_append, List.nil_append, List.set_cons_zero, List.set_cons_succ, List.replicate, Nat.reduceAdd, Nat.reduceSub, List.append_nil, dName, true_and, and_true, Nat.zero_add, Nat.sub_self]
  rw [s_own]
  simp only [g_tup2, g_tup3, fNotN_at, fIsN_at, List.getElem?_cons_succ, List.getElem?_cons_zero, s_par3, s_lc, fCut_at, fAdd_lst, fAdd_tup, fList_lst, fList_tup, fTuple_lst, fMul_lst, items_lst, items_tup, range2_at, zip_at, s_body, s_seq, s_next, s_onE, s_onT, s_asg, s_par, s_for, s_raise, s_try, s_asgG, w_bind, w_pure, w_need, w_fail, w_calm, g_0, g_s, fEq_int, fNe_int, fEq_str, fNe_str, fInt_at, fInt0_at, fAdd_int, fCmp_at, fNeg_at, fLen_tup, fLen_lst, fIx_t0, fIx_l0, fIx_t1, fIx_l1, fIntC_at, fAbs_at, fGcd_at, fRepr_at, fBits_at, fIs_at, range_at, List.map_cons, List.map_nil, List.length_cons, List.length_nil, List.cons_append, List.nil_append, List.set_cons_zero, List.set_cons_succ, List.replicate, Nat.reduceAdd, Nat.reduceSub, List.append_nil, dName, true_and, and_true, Nat.zero_add, Nat.sub_self]
  refine ⟨fits_small (by simp), fits_small (by simp), ?_⟩
  refine ⟨_, whileD_inv (fun m ρ n' => n' = n ∧ ∃ (st : List (Nat × D)) (a b : Option SV), ρ = [some (.d (.int l)), some (.d d), some (.ml (st.map fun p => .tup [.int p.1, p.2])), a, b] ∧ (∀ p ∈ st, p.1 ≤ 3 ∧ ∃ j, okDp j p.2 = true) ∧ m ≤ 1000 ∧ isPl l d = st.all (fun p => isPl p.1 p.2) ∧ (st.map fun p => 2 ^ (p.1 + 1) - 1).sum = m ∧ st.length ≤ m) (fun m ρ n' E' hi hnx hbk hrt hex => ?_) (2 ^ (l + 1) - 1) _ _ ⟨rfl, [(l, d)], _, _, rfl, by simpa using ⟨hl3, 6, hd⟩, by have := Nat.pow_le_pow_right (n := 2) (by decide) (show l + 1 ≤ 4 by omega); omega, by simp, by simp, by have := Nat.two_pow_pos (l + 1); have := Nat.pow_le_pow_right (n := 2) (by decide) (show 1 ≤ l + 1 by omega); simp; omega⟩ _ (Nat.lt_succ_self _)⟩
  obtain ⟨rfl, st, a, b, rfl, hok, hm1000, he, hm, hlen⟩ := hi
  simp only [g_tup2, g_tup3, fNotN_at, fIsN_at, List.getElem?_cons_succ, List.getElem?_cons_zero, s_par3, s_lc, fCut_at, fAdd_lst, fAdd_tup, fList_lst, fList_tup, fTuple_lst, fMul_lst, items_lst, items_tup, range2_at, zip_at, s_body, s_seq, s_next, s_onE, s_onT, s_asg, s_par, s_for, s_raise, s_try, s_asgG, w_bind, w_pure, w_need, w_fail, w_calm, g_0, g_s, fEq_int, fNe_int, fEq_str, fNe_str, fInt_at, fInt0_at, fAdd_int, fCmp_at, fNeg_at, fLen_tup, fLen_lst, fIx_t0, fIx_l0, fIx_t1, fIx_l1, fIntC_at, fAbs_at, fGcd_at, fRepr_at, fBits_at, fIs_at, range_at, List.map_cons, List.map_nil, List.length_cons, List.length_nil, List.cons_append, List.nil_append, List.set_cons_zero, List.set_cons_succ, List.replicate, Nat.reduceAdd, Nat.reduceSub, List.append_nil, dName, true_and, and_true, Nat.zero_add, Nat.sub_self]
  rcases List.eq_nil_or_concat st with rfl | ⟨init, ⟨hh, e⟩, rfl⟩
  · rw [he] at hk
    simp only [List.map_nil, List.length_nil]
    exact ifF (by decide) hk
  · refine ifT (by simp) ?_
    rw [List.concat_eq_append] at hok he hm hlen ⊢
    rw [List.map_append, List.map_cons, List.map_nil]
    rw [s_pop (ds := init.map fun p => .tup [.int p.1, p.2]) (d := .tup [.int hh, e]) rfl]
    obtain ⟨h3, jj, hj⟩ := hok (hh, e) (by simp)
    have hok' : ∀ p ∈ init, p.1 ≤ 3 ∧ ∃ j, okDp j p.2 = true := fun p hp => hok p (List.mem_append_left _ hp)
    have hm' : (init.map fun p => 2 ^ (p.1 + 1) - 1).sum + (2 ^ (hh + 1) - 1) = m := by rw [← hm]; simp
    have he' : isPl l d = (init.all (fun p => isPl p.1 p.2) && isPl hh e) := by rw [he]; simp
    have p2 : 2 ≤ 2 ^ (hh + 1) := by have := Nat.pow_le_pow_right (n := 2) (by decide) (show 1 ≤ hh + 1 by omega); omega
    have hil : init.length ≤ (init.map fun p => 2 ^ (p.1 + 1) - 1).sum := by
      clear hok hm hm' he he' hlen hok' hnx
      induction init with
      | nil => simp
      | cons q r ih =>
        have := Nat.pow_le_pow_right (n := 2) (by decide) (show 1 ≤ q.1 + 1 by omega)
        rw [List.length_cons, List.map_cons, List.sum_cons]
        omega
    simp only [g_tup2, g_tup3, fNotN_at, fIsN_at, List.getElem?_cons_succ, List.getElem?_cons_zero, s_par3, s_lc, fCut_at, fAdd_lst, fAdd_tup, fList_lst, fList_tup, fTuple_lst, fMul_lst, items_lst, items_tup, range2_at, zip_at, s_body, s_seq, s_next, s_onE, s_onT, s_asg, s_par, s_for, s_raise, s_try, s_asgG, w_bind, w_pure, w_need, w_fail, w_calm, g_0, g_s, fEq_int, fNe_int, fEq_str, fNe_str, fInt_at, fInt0_at, fAdd_int, fCmp_at, fNeg_at, fLen_tup, fLen_lst, fIx_t0, fIx_l0, fIx_t1, fIx_l1, fIntC_at, fAbs_at, fGcd_at, fRepr_at, fBits_at, fIs_at, range_at, List.map_cons, List.map_nil, List.length_cons, List.length_nil, List.cons_append, List.nil_append, List.set_cons_zero, List.set_cons_succ, List.replicate, Nat.reduceAdd, Nat.reduceSub, List.append_nil, dName, true_and, and_true, Nat.zero_add, Nat.sub_self]
    by_cases h0 : hh = 0
    · subst h0
      refine ifT (by simp) ?_
      refine ⟨okDp_base hj, ?_⟩
      have e1 : isPl 0 e = wholeB e := by unfold isPl; rfl
      rw [e1] at he'
      by_cases hw : wholeB e = true
      · refine ifF (by simp [hw]) ?_
        exact (hnx _ _ _ (by omega) ⟨rfl, init, _, _, rfl, hok', by omega, by rw [he', hw, Bool.and_true], rfl, hil⟩).1
      · refine ifT (by simpa using hw) ?_
        rw [hrt]
        have hw : wholeB e = false := by simpa using hw
        rw [he', hw, Bool.and_false] at hk
        exact hk
    · refine ifF (by simpa using h0) ?_
      refine ⟨okDp_base hj, ?_⟩
      obtain ⟨hp, rfl⟩ : ∃ hp, hh = hp + 1 := ⟨hh - 1, by omega⟩
      by_cases hw : tupLen e 2 = true
      · refine ifF (by simp [hw]) ?_
        obtain ⟨x, y, rfl⟩ : ∃ x y, e = .tup [x, y] := by
          cases e with
          | tup es =>
            have h2 : (es.length : Int) = 2 := by simpa [tupLen] using hw
            match es, h2 with
            | [x, y], _ => exact ⟨x, y, rfl⟩
            | [], h => simp at h
            | [_], h => simp at h
            | _ :: _ :: _ :: _, h => simp at h; omega
          | _ => cases hw
        cases jj with
        | zero => cases hj
        | succ jj =>
          obtain ⟨_, hc⟩ := okDp_tup hj
          refine ⟨⟨_, rfl⟩, ?_⟩
          rw [s_ownCat]
          simp only [g_tup2, g_tup3, fNotN_at, fIsN_at, List.getElem?_cons_succ, List.getElem?_cons_zero, s_par3, s_lc, fCut_at, fAdd_lst, fAdd_tup, fList_lst, fList_tup, fTuple_lst, fMul_lst, items_lst, items_tup, range2_at, zip_at, s_body, s_seq, s_next, s_onE, s_onT, s_asg, s_par, s_for, s_raise, s_try, s_asgG, w_bind, w_pure, w_need, w_fail, w_calm, g_0, g_s, fEq_int, fNe_int, fEq_str, fNe_str, fInt_at, fInt0_at, fAdd_int, fCmp_at, fNeg_at, fLen_tup, fLen_lst, fIx_t0, fIx_l0, fIx_t1, fIx_l1, fIntC_at, fAbs_at, fGcd_at, fRepr_at, fBits_at, fIs_at, range_at, List.map_cons, List.map_nil, List.length_cons, List.length_nil, List.cons_append, List.nil_append, List.set_cons_zero, List.set_cons_succ, List.replicate, Nat.reduceAdd, Nat.reduceSub, List.append_nil, dName, true_and, and_true, Nat.zero_add, Nat.sub_self]
          rw [lsub]
          have e1 : isPl (hp + 1) (.tup [x, y]) = (isPl hp x && isPl hp y) := isPl_two
          have pw : 2 ^ (hp + 1 + 1) = 2 ^ (hp + 1) + 2 ^ (hp + 1) := by rw [Nat.pow_succ]; omega
          have pp : 2 ≤ 2 ^ (hp + 1) := by have := Nat.pow_le_pow_right (n := 2) (by decide) (show 1 ≤ hp + 1 by omega); omega
          have h16 : (init.map fun p : Nat × D => D.tup [.int p.1, p.2]).length + 2 ≤ m := by simp; omega
          refine ⟨fits_small (by simp), fits_small (by simp), ⟨fits_small (by simp), fits_small (by omega)⟩, ?_⟩
          refine (hnx (m - 1) _ _ (by omega) ⟨rfl, init ++ [(hp, x), (hp, y)], _, _, by rw [List.map_append]; rfl, ?_, by omega, ?_, ?_, ?_⟩).1
          · intro p hp'
            rcases List.mem_append.mp hp' with h | h
            · exact hok' p h
            · simp only [List.mem_cons, List.not_mem_nil, or_false] at h
              rcases h with rfl | rfl
              · exact ⟨by omega, jj, hc x (by simp)⟩
              · exact ⟨by omega, jj, hc y (by simp)⟩
          · rw [he', e1]
            simp [Bool.and_assoc]
          · simp only [List.map_append, List.map_cons, List.map_nil, List.sum_append, List.sum_cons, List.sum_nil]
            omega
          · simp
            omega
      · refine ifT (by simpa using hw) ?_
        have e1 : isPl (hp + 1) e = false := by
          unfold isPl
          cases q : twoT e with
          | none => rfl
          | some z => 
            exfalso
            apply hw
            unfold twoT at q
            split at q
            · simp [tupLen]
            · cases q
        rw [hrt]
        rw [he', e1, Bool.and_false] at hk
        exact hk


theorem ok_flat_numbers  (F : DefF K mg "flat_numbers" s_flat_numbers ["level", "number"]) (m_range : mg "range" = none) (m_list : mg "list" = none) : DefG P w K mg base "flat_numbers" ["level", "number"] (0 + 1) w_flat_numbers := by
  refine def_ok (k := 0) F sc_flat_numbers (fun f cdv A outer s H E hg hr => (DSs.cons (DS.set (k := 2) (fun _ => sc_flat_numbers.nd) (fun _ => rfl) (fun _ => (.inl rfl)) (DE.lst (DA.cons (DE.var fun _ => pv 1) DA.nil)))
    (DSs.cons (DS.for (fun _ => passes_of rfl) (fun _ => rfl) (DI.range1 (fun _ => by rfl) (fun _ => m_range) (DA.cons (DE.var fun _ => pv 0) DA.nil)) (DG.name (k := 3) (fun _ => pg_name sc_flat_numbers.nd rfl (.inl rfl))) (DSs.cons (DS.set (k := 4) (fun _ => sc_flat_numbers.nd) (fun _ => rfl) (fun _ => (.inl rfl)) (DE.cst (.lst []) (by rfl)))
    (DSs.cons (DS.for (fun _ => passes_of rfl) (fun _ => rfl) (DI.seq (fun _ => rfl) (DE.var fun _ => pv 2)) (DG.name (k := 5) (fun _ => pg_name sc_flat_numbers.nd rfl (.inl rfl))) (DSs.one (DS.set (k := 4) (fun _ => sc_flat_numbers.nd) (fun _ => rfl) (fun _ => (.inl rfl)) (DE.op2 (fun _ _ _ p q => pe_op op_addA p q) sem_add (DE.var fun _ => pv 4) (DE.opL (fun _ _ ha => pe_callTy call_list_of (by rfl) m_list (by decide +kernel) ha) sem_list (DA.cons (DE.var fun _ => pv 5) DA.nil))))))
    (DSs.one (DS.set (k := 2) (fun _ => sc_flat_numbers.nd) (fun _ => rfl) (fun _ => (.inl rfl)) (DE.var fun _ => pv 4))))))
    (DSs.one (DS.ret (DE.var fun _ => pv 2)))))) fun ds Kd Kx n hl h => ?_
  obtain ⟨l, x, rfl, hl3, hk⟩ := h
  simp only [g_tup2, g_tup3, fNotN_at, fIsN_at, List.getElem?_cons_succ, List.getElem?_cons_zero, s_par3, s_lc, fCut_at, fAdd_lst, fAdd_tup, fList_lst, fList_tup, fTuple_lst, fMul_lst, items_lst, items_tup, range2_at, zip_at, s_body, s_seq, s_next, s_onE, s_onT, s_asg, s_par, s_for, s_raise, s_try, s_asgG, w_bind, w_pure, w_need, w_fail, w_calm, g_0, g_s, fEq_int, fNe_int, fEq_str, fNe_str, fInt_at, fInt0_at, fAdd_int, fCmp_at, fNeg_at, fLen_tup, fLen_lst, fIx_t0, fIx_l0, fIx_t1, fIx_l1, fIntC_at, fAbs_at, fGcd_at, fRepr_at, fBits_at, fIs_at, range_at, List.map_cons, List.map_nil, List.length_cons, List.length_nil, List.cons_append, List.nil_append, List.set_cons_zero, List.set_cons_succ, List.replicate, Nat.reduceAdd, Nat.reduceSub, List.append_nil, dName, true_and, and_true, Nat.zero_add, Nat.sub_self]
  refine ⟨fits_small (by simp), ⟨by omega, by omega⟩, ?_⟩
  have hlen : (rangeD 0 ((l : Int)).toNat).length = l := by simp [rangeD]
  refine forD_inv (fun k ρ n' => n' = n ∧ k ≤ l ∧ ∃ (xs : List (T k)) (a b c : Option SV), ρ = [some (.d (.int l)), some (.d (dT l x)), some (.d (.lst (xs.map (dT k)))), a, b, c] ∧ xs.flatMap (flT k) = flT l x ∧ xs.length * 2 ^ k = 2 ^ l) _ _ _ (by rw [hlen]; exact ⟨rfl, Nat.le_refl _, [x], _, _, _, rfl, by simp, by simp⟩) (fun ρ n' hi => ?_) (fun k d ρ n' E' hd hi hnx hbk hrt hex => ?_)
  · obtain ⟨rfl, _, xs, a, b, c, rfl, hf, _⟩ := hi
    have e : inL (flT l x) = xs.map (dT 0) := by rw [← hf]; exact flat_zero xs
    rw [e] at hk
    exact hk
  · obtain ⟨rfl, hkl, xs, a, b, c, rfl, hf, hn⟩ := hi
    have hx8 : xs.length ≤ 8 := by
      have h1 : 2 ^ l ≤ 2 ^ 3 := Nat.pow_le_pow_right (by decide) hl3
      have h2 : 0 < 2 ^ (k + 1) := Nat.two_pow_pos _
      have h3 : xs.length * 1 ≤ xs.length * 2 ^ (k + 1) := Nat.mul_le_mul_left _ h2
      omega
    simp only [g_tup2, g_tup3, fNotN_at, fIsN_at, List.getElem?_cons_succ, List.getElem?_cons_zero, s_par3, s_lc, fCut_at, fAdd_lst, fAdd_tup, fList_lst, fList_tup, fTuple_lst, fMul_lst, items_lst, items_tup, range2_at, zip_at, s_body, s_seq, s_next, s_onE, s_onT, s_asg, s_par, s_for, s_raise, s_try, s_asgG, w_bind, w_pure, w_need, w_fail, w_calm, g_0, g_s, fEq_int, fNe_int, fEq_str, fNe_str, fInt_at, fInt0_at, fAdd_int, fCmp_at, fNeg_at, fLen_tup, fLen_lst, fIx_t0, fIx_l0, fIx_t1, fIx_l1, fIntC_at, fAbs_at, fGcd_at, fRepr_at, fBits_at, fIs_at, range_at, List.map_cons, List.map_nil, List.length_cons, List.length_nil, List.cons_append, List.nil_append, List.set_cons_zero, List.set_cons_succ, List.replicate, Nat.reduceAdd, Nat.reduceSub, List.append_nil, dName, true_and, and_true, Nat.zero_add, Nat.sub_self]
    refine forD_map (dT (k + 1)) (fun rem ρ n1 => n1 = n' ∧ ∃ (ys : List (T k)) (c : Option SV), ρ = [some (.d (.int l)), some (.d (dT l x)), some (.d (.lst (xs.map (dT (k + 1))))), some (.d d), some (.d (.lst (ys.map (dT k)))), c] ∧ ys ++ prs rem = prs xs) xs _ _ ⟨rfl, [], _, rfl, rfl⟩ (fun ρ n' hi => ?_) (fun y rem ρ n' E'' hi hnx' hrt' hex' => ?_)
    · obtain ⟨rfl, ys, c, rfl, e⟩ := hi
      have e : ys = prs xs := by rw [← e]; exact (List.append_nil _).symm
      subst e
      refine hnx _ _ ⟨rfl, by omega, prs xs, _, _, _, rfl, by rw [prs_flat]; exact hf, ?_⟩
      rw [prs_len, ← hn, Nat.pow_succ]
      rw [Nat.mul_comm 2, Nat.mul_assoc, Nat.mul_comm 2]
    · obtain ⟨rfl, ys, c, rfl, e⟩ := hi
      rw [prs_cons] at e
      rw [dT_succ]
      simp only [g_tup2, g_tup3, fNotN_at, fIsN_at, List.getElem?_cons_succ, List.getElem?_cons_zero, s_par3, s_lc, fCut_at, fAdd_lst, fAdd_tup, fList_lst, fList_tup, fTuple_lst, fMul_lst, items_lst, items_tup, range2_at, zip_at, s_body, s_seq, s_next, s_onE, s_onT, s_asg, s_par, s_for, s_raise, s_try, s_asgG, w_bind, w_pure, w_need, w_fail, w_calm, g_0, g_s, fEq_int, fNe_int, fEq_str, fNe_str, fInt_at, fInt0_at, fAdd_int, fCmp_at, fNeg_at, fLen_tup, fLen_lst, fIx_t0, fIx_l0, fIx_t1, fIx_l1, fIntC_at, fAbs_at, fGcd_at, fRepr_at, fBits_at, fIs_at, range_at, List.map_cons, List.map_nil, List.length_cons, List.length_nil, List.cons_append, List.nil_append, List.set_cons_zero, List.set_cons_succ, List.replicate, Nat.reduceAdd, Nat.reduceSub, List.append_nil, dName, true_and, and_true, Nat.zero_add, Nat.sub_self]
      have hy : ys.length + 2 ≤ 16 := by
        have := congrArg List.length e
        rw [List.length_append, List.length_cons, List.length_cons, prs_len, prs_len] at this
        omega
      refine ⟨fits_small (by simp; omega), hnx' _ _ ⟨rfl, ys ++ [y.1, y.2], _, by rw [List.map_append]; rfl, by rw [List.append_assoc]; exact e⟩⟩


theorem ok_built  (F : DefF K mg "built" s_built ["level", "row"]) (m_range : mg "range" = none) (m_len : mg "len" = none) (m_list : mg "list" = none) : DefG P w K mg base "built" ["level", "row"] (0 + 1) w_built := by
  refine def_ok (k := 0) F sc_built (fun f cdv A outer s H E hg hr => (DSs.cons (DS.set (k := 2) (fun _ => sc_built.nd) (fun _ => rfl) (fun _ => (.inr rfl)) (DE.opL (fun _ _ ha => pe_callTy call_list_of (by rfl) m_list (by decide +kernel) ha) sem_list (DA.cons (DE.var fun _ => pv 1) DA.nil)))
    (DSs.cons (DS.for (fun _ => passes_of rfl) (fun _ => rfl) (DI.range1 (fun _ => by rfl) (fun _ => m_range) (DA.cons (DE.var fun _ => pv 0) DA.nil)) (DG.name (k := 3) (fun _ => pg_name sc_built.nd rfl (.inl rfl))) (DSs.one (DS.set (k := 2) (fun _ => sc_built.nd) (fun _ => rfl) (fun _ => (.inr rfl)) (DE.lc (own := [("k", 4)]) (fun _ => rfl) (fun _ => sc_built.nd) (DI.range1 (fun _ => by rfl) (fun _ => m_range) (DA.cons (DE.op2 (fun _ _ _ p q => pe_op op_fdivA p q) sem_int (DE.opL (fun _ _ ha => pe_callB call_lenA (by rfl) m_len (by decide +kernel) ha) sem_len (DA.cons (DE.var fun _ => pv 2) DA.nil)) DE.int) DA.nil)) (fun _ => blkOk_by (N := ["level", "row", "some", "lap", "k"]) (sc := defScope s_built) (by decide +kernel)) (DG.name (k := 4) (fun _ => pg_name sc_built.nd rfl (.inl rfl))) DTs.nil (DE.tup (DA.cons (DE.op2 (fun _ _ _ p q => pe_ix ix_seq p q (fun _ _ => rfl)) sem_ix (DE.var fun _ => pv 2) (DE.op2 (fun _ _ _ p q => pe_op op_mulW p q) sem_int DE.int (DE.var fun _ => pv 4))) (DA.cons (DE.op2 (fun _ _ _ p q => pe_ix ix_seq p q (fun _ _ => rfl)) sem_ix (DE.var fun _ => pv 2) (DE.op2 (fun _ _ _ p q => pe_op op_addA p q) sem_add (DE.op2 (fun _ _ _ p q => pe_op op_mulW p q) sem_int DE.int (DE.var fun _ => pv 4)) DE.int)) DA.nil)))))))
    (DSs.one (DS.ret (DE.op2 (fun _ _ _ p q => pe_ix ix_seq p q (fun _ _ => rfl)) sem_ix (DE.var fun _ => pv 2) DE.int)))))) fun ds Kd Kx n hl h => ?_
  obtain ⟨l, x, rfl, hl3, hk⟩ := h
  simp only [g_tup2, g_tup3, fNotN_at, fIsN_at, List.getElem?_cons_succ, List.getElem?_cons_zero, s_par3, s_lc, fCut_at, fAdd_lst, fAdd_tup, fList_lst, fList_tup, fTuple_lst, fMul_lst, items_lst, items_tup, range2_at, zip_at, s_body, s_seq, s_next, s_onE, s_onT, s_asg, s_par, s_for, s_raise, s_try, s_asgG, w_bind, w_pure, w_need, w_fail, w_calm, g_0, g_s, fEq_int, fNe_int, fEq_str, fNe_str, fInt_at, fInt0_at, fAdd_int, fCmp_at, fNeg_at, fLen_tup, fLen_lst, fIx_t0, fIx_l0, fIx_t1, fIx_l1, fIntC_at, fAbs_at, fGcd_at, fRepr_at, fBits_at, fIs_at, range_at, List.map_cons, List.map_nil, List.length_cons, List.length_nil, List.cons_append, List.nil_append, List.set_cons_zero, List.set_cons_succ, List.replicate, Nat.reduceAdd, Nat.reduceSub, List.append_nil, dName, true_and, and_true, Nat.zero_add, Nat.sub_self]
  refine ⟨⟨by omega, by omega⟩, ?_⟩
  have hlen : (rangeD 0 ((l : Int)).toNat).length = l := by simp [rangeD]
  refine forD_inv (fun k ρ n' => n' = n ∧ ∃ (i : Nat) (xs : List (T i)) (a b : Option SV), i + k = l ∧ ρ = [some (.d (.int l)), some (.d (.lst (inL (flT l x)))), some (.d (.lst (xs.map (dT i)))), a, b] ∧ xs.flatMap (flT i) = flT l x ∧ xs.length = 2 ^ k) _ _ _ (by
    rw [hlen]
    refine ⟨rfl, 0, flT l x, _, _, by omega, rfl, ?_, flT_len l x⟩
    show (flT l x).flatMap (fun i => [i]) = flT l x
    simp) (fun ρ n' hi => ?_) (fun k d ρ n' E' hd hi hnx hbk hrt hex => ?_)
  · obtain ⟨rfl, i, xs, a, b, hi, rfl, hf, hn⟩ := hi
    obtain rfl : i = l := by omega
    match xs, hn with
    | [y], _ =>
      have e : y = x := flT_inj _ _ _ (by rw [← hf]; simp)
      subst e
      simp only [g_tup2, g_tup3, fNotN_at, fIsN_at, List.getElem?_cons_succ, List.getElem?_cons_zero, s_par3, s_lc, fCut_at, fAdd_lst, fAdd_tup, fList_lst, fList_tup, fTuple_lst, fMul_lst, items_lst, items_tup, range2_at, zip_at, s_body, s_seq, s_next, s_onE, s_onT, s_asg, s_par, s_for, s_raise, s_try, s_asgG, w_bind, w_pure, w_need, w_fail, w_calm, g_0, g_s, fEq_int, fNe_int, fEq_str, fNe_str, fInt_at, fInt0_at, fAdd_int, fCmp_at, fNeg_at, fLen_tup, fLen_lst, fIx_t0, fIx_l0, fIx_t1, fIx_l1, fIntC_at, fAbs_at, fGcd_at, fRepr_at, fBits_at, fIs_at, range_at, List.map_cons, List.map_nil, List.length_cons, List.length_nil, List.cons_append, List.nil_append, List.set_cons_zero, List.set_cons_succ, List.replicate, Nat.reduceAdd, Nat.reduceSub, List.append_nil, dName, true_and, and_true, Nat.zero_add, Nat.sub_self]
      exact hk
  · obtain ⟨rfl, i, xs, a, b, hi, rfl, hf, hn⟩ := hi
    obtain ⟨m, hm⟩ : ∃ m, 2 ^ k = m := ⟨_, rfl⟩
    have h8 : m ≤ 8 := by
      have : 2 ^ k ≤ 2 ^ 3 := Nat.pow_le_pow_right (by decide) (by omega)
      omega
    rw [Nat.pow_succ, hm] at hn
    rw [hm] at hnx
    obtain ⟨ps, hps, hpl⟩ := prs_of m xs (by omega)
    subst hps
    simp only [g_tup2, g_tup3, fNotN_at, fIsN_at, List.getElem?_cons_succ, List.getElem?_cons_zero, s_par3, s_lc, fCut_at, fAdd_lst, fAdd_tup, fList_lst, fList_tup, fTuple_lst, fMul_lst, items_lst, items_tup, range2_at, zip_at, s_body, s_seq, s_next, s_onE, s_onT, s_asg, s_par, s_for, s_raise, s_try, s_asgG, w_bind, w_pure, w_need, w_fail, w_calm, g_0, g_s, fEq_int, fNe_int, fEq_str, fNe_str, fInt_at, fInt0_at, fAdd_int, fCmp_at, fNeg_at, fLen_tup, fLen_lst, fIx_t0, fIx_l0, fIx_t1, fIx_l1, fIntC_at, fAbs_at, fGcd_at, fRepr_at, fBits_at, fIs_at, range_at, List.map_cons, List.map_nil, List.length_cons, List.length_nil, List.cons_append, List.nil_append, List.set_cons_zero, List.set_cons_succ, List.replicate, Nat.reduceAdd, Nat.reduceSub, List.append_nil, dName, true_and, and_true, Nat.zero_add, Nat.sub_self]
    have e2 : (((prs ps).map (dT i)).length : Int).fdiv 2 = (m : Nat) := by
      rw [List.length_map, hn, Int.fdiv_eq_ediv_of_nonneg _ (by decide)]
      omega
    rw [e2]
    refine ⟨⟨by decide, by decide⟩, ⟨by omega, by omega⟩, ?_⟩
    refine lcD_map (f := fun t => match t with | .int j => (ps[j.toNat]?).elim .non (dT (i + 1)) | _ => .non) _ [] _ (by rw [sizeLine_eq]; simp [rangeD]; omega) (fun t ht => ⟨_, rfl, fun K' hK => ?_⟩) ?_
    · obtain ⟨j, hj, rfl⟩ := List.mem_map.mp ht
      have hj : j < m := by rw [List.mem_range] at hj; omega
      have hp : ps[j]? = some ps[j] := List.getElem?_eq_getElem (by omega)
      obtain ⟨g1, g2⟩ := prs_get ps j _ hp
      simp only [Int.zero_add, Int.toNat_natCast, hp, Option.elim] at hK
      simp only [g_tup2, g_tup3, fNotN_at, fIsN_at, List.getElem?_cons_succ, List.getElem?_cons_zero, s_par3, s_lc, fCut_at, fAdd_lst, fAdd_tup, fList_lst, fList_tup, fTuple_lst, fMul_lst, items_lst, items_tup, range2_at, zip_at, s_body, s_seq, s_next, s_onE, s_onT, s_asg, s_par, s_for, s_raise, s_try, s_asgG, w_bind, w_pure, w_need, w_fail, w_calm, g_0, g_s, fEq_int, fNe_int, fEq_str, fNe_str, fInt_at, fInt0_at, fAdd_int, fCmp_at, fNeg_at, fLen_tup, fLen_lst, fIx_t0, fIx_l0, fIx_t1, fIx_l1, fIntC_at, fAbs_at, fGcd_at, fRepr_at, fBits_at, fIs_at, range_at, List.map_cons, List.map_nil, List.length_cons, List.length_nil, List.cons_append, List.nil_append, List.set_cons_zero, List.set_cons_succ, List.replicate, Nat.reduceAdd, Nat.reduceSub, List.append_nil, dName, true_and, and_true, Nat.zero_add, Nat.sub_self]
      have c1 : CMulW 2 (0 + (j : Int)) := wide_mul (a := 2) (b := 10) (by decide) (by omega) (by decide) (by decide) (by decide)
      refine ⟨c1, ?_⟩
      rw [show (2 : Int) * (0 + (j : Int)) = ((2 * j : Nat) : Int) by omega]
      simp only [g_tup2, g_tup3, fNotN_at, fIsN_at, List.getElem?_cons_succ, List.getElem?_cons_zero, s_par3, s_lc, fCut_at, fAdd_lst, fAdd_tup, fList_lst, fList_tup, fTuple_lst, fMul_lst, items_lst, items_tup, range2_at, zip_at, s_body, s_seq, s_next, s_onE, s_onT, s_asg, s_par, s_for, s_raise, s_try, s_asgG, w_bind, w_pure, w_need, w_fail, w_calm, g_0, g_s, fEq_int, fNe_int, fEq_str, fNe_str, fInt_at, fInt0_at, fAdd_int, fCmp_at, fNeg_at, fLen_tup, fLen_lst, fIx_t0, fIx_l0, fIx_t1, fIx_l1, fIntC_at, fAbs_at, fGcd_at, fRepr_at, fBits_at, fIs_at, range_at, List.map_cons, List.map_nil, List.length_cons, List.length_nil, List.cons_append, List.nil_append, List.set_cons_zero, List.set_cons_succ, List.replicate, Nat.reduceAdd, Nat.reduceSub, List.append_nil, dName, true_and, and_true, Nat.zero_add, Nat.sub_self]
      rw [fIx_l (atI_of (d := dT i (ps[j]).1) (by rw [List.getElem?_map, g1]; rfl))]
      try simp only [g_tup2, g_tup3, fNotN_at, fIsN_at, List.getElem?_cons_succ, List.getElem?_cons_zero, s_par3, s_lc, fCut_at, fAdd_lst, fAdd_tup, fList_lst, fList_tup, fTuple_lst, fMul_lst, items_lst, items_tup, range2_at, zip_at, s_body, s_seq, s_next, s_onE, s_onT, s_asg, s_par, s_for, s_raise, s_try, s_asgG, w_bind, w_pure, w_need, w_fail, w_calm, g_0, g_s, fEq_int, fNe_int, fEq_str, fNe_str, fInt_at, fInt0_at, fAdd_int, fCmp_at, fNeg_at, fLen_tup, fLen_lst, fIx_t0, fIx_l0, fIx_t1, fIx_l1, fIntC_at, fAbs_at, fGcd_at, fRepr_at, fBits_at, fIs_at, range_at, List.map_cons, List.map_nil, List.length_cons, List.length_nil, List.cons_append, List.nil_append, List.set_cons_zero, List.set_cons_succ, List.replicate, Nat.reduceAdd, Nat.reduceSub, List.append_nil, dName, true_and, and_true, Nat.zero_add, Nat.sub_self]
      refine ⟨c1, ?_⟩
      rw [show (2 : Int) * (0 + (j : Int)) = ((2 * j : Nat) : Int) by omega]
      try simp only [g_tup2, g_tup3, fNotN_at, fIsN_at, List.getElem?_cons_succ, List.getElem?_cons_zero, s_par3, s_lc, fCut_at, fAdd_lst, fAdd_tup, fList_lst, fList_tup, fTuple_lst, fMul_lst, items_lst, items_tup, range2_at, zip_at, s_body, s_seq, s_next, s_onE, s_onT, s_asg, s_par, s_for, s_raise, s_try, s_asgG, w_bind, w_pure, w_need, w_fail, w_calm, g_0, g_s, fEq_int, fNe_int, fEq_str, fNe_str, fInt_at, fInt0_at, fAdd_int, fCmp_at, fNeg_at, fLen_tup, fLen_lst, fIx_t0, fIx_l0, fIx_t1, fIx_l1, fIntC_at, fAbs_at, fGcd_at, fRepr_at, fBits_at, fIs_at, range_at, List.map_cons, List.map_nil, List.length_cons, List.length_nil, List.cons_append, List.nil_append, List.set_cons_zero, List.set_cons_succ, List.replicate, Nat.reduceAdd, Nat.reduceSub, List.append_nil, dName, true_and, and_true, Nat.zero_add, Nat.sub_self]
      rw [show ((2 * j : Nat) : Int) + 1 = ((2 * j + 1 : Nat) : Int) by omega, fIx_l (atI_of (d := dT i (ps[j]).2) (by rw [List.getElem?_map, g2]; rfl))]
      exact ⟨fits_small (by simp), hK⟩
    · have e3 : (rangeD 0 ((m : Nat) : Int).toNat).map (fun t => match t with | .int j => (ps[j.toNat]?).elim .non (dT (i + 1)) | _ => .non) = ps.map (dT (i + 1)) := by
        apply List.ext_getElem?
        intro q
        rw [List.getElem?_map, List.getElem?_map]
        unfold rangeD
        rw [List.getElem?_map, Int.toNat_natCast]
        by_cases hq : q < m
        · rw [List.getElem?_range hq, List.getElem?_eq_getElem (show q < ps.length by omega)]
          simp
          rw [List.getElem?_eq_getElem (show q < ps.length by omega)]
          rfl
        · rw [List.getElem?_eq_none (by simp; omega), List.getElem?_eq_none (by omega)]
          rfl
      rw [List.nil_append, e3]
      exact hnx _ _ ⟨rfl, i + 1, ps, _, _, by omega, rfl, by rw [← prs_flat]; exact hf, hpl⟩


theorem ok_plain_integer  (F : DefF K mg "plain_integer" s_plain_integer ["level", "number"]) (h_built : DefG P w K mg base "built" ["level", "row"] (1) w_built) : DefG P w K mg base "plain_integer" ["level", "number"] (1 + 1) w_plain_integer := by
  obtain ⟨f_built, d_built, G_built, n_built, q_built, b_built⟩ := h_built.ex
  refine def_ok (k := 1) F sc_plain_integer (fun f cdv A outer s H E hg hr => (DSs.one (DS.ret (DE.call (fun _ => G_built) (fun _ => hg) (fun _ => hr.mono (by omega)) (fun _ => takes_of rfl rfl rfl rfl) (fun _ => by rfl) (fun _ => n_built) (fun _ => q_built) (fun _ => b_built) (DA.cons (DE.var fun _ => pv 0) (DA.cons (DE.op2 (fun _ _ _ p q => pe_op op_addA p q) sem_add (DE.lst (DA.cons (DE.var fun _ => pv 1) DA.nil)) (DE.op2 (fun _ _ _ p q => pe_op op_mulA p q) sem_mulA (DE.cst (.lst [.int 0]) (by rfl)) (DE.op2 (fun _ _ _ p q => pe_op op_sub p q) sem_int0 (DE.op2 (fun _ _ _ p q => pe_op op_shlW p q) sem_int DE.int (DE.var fun _ => pv 0)) DE.int))) DA.nil)))))) fun ds Kd Kx n hl h => ?_
  obtain ⟨l, x, rfl, hl3, hk⟩ := h
  simp only [g_tup2, g_tup3, fNotN_at, fIsN_at, List.getElem?_cons_succ, List.getElem?_cons_zero, s_par3, s_lc, fCut_at, fAdd_lst, fAdd_tup, fList_lst, fList_tup, fTuple_lst, fMul_lst, items_lst, items_tup, range2_at, zip_at, s_body, s_seq, s_next, s_onE, s_onT, s_asg, s_par, s_for, s_raise, s_try, s_asgG, w_bind, w_pure, w_need, w_fail, w_calm, g_0, g_s, fEq_int, fNe_int, fEq_str, fNe_str, fInt_at, fInt0_at, fAdd_int, fCmp_at, fNeg_at, fLen_tup, fLen_lst, fIx_t0, fIx_l0, fIx_t1, fIx_l1, fIntC_at, fAbs_at, fGcd_at, fRepr_at, fBits_at, fIs_at, range_at, List.map_cons, List.map_nil, List.length_cons, List.length_nil, List.cons_append, List.nil_append, List.set_cons_zero, List.set_cons_succ, List.replicate, Nat.reduceAdd, Nat.reduceSub, List.append_nil, dName, true_and, and_true, Nat.zero_add, Nat.sub_self]
  have key : ∀ l : Nat, l ≤ 3 → CShl 1 (l : Int) ∧ (-2 ^ 63 ≤ (1 : Int) * 2 ^ ((l : Int)).toNat - 1 ∧ (1 : Int) * 2 ^ ((l : Int)).toNat - 1 < 2 ^ 63 ∧ Fits (1 * ((1 : Int) * 2 ^ ((l : Int)).toNat - 1).toNat)) ∧ Fits (1 + (List.replicate ((1 : Int) * 2 ^ ((l : Int)).toNat - 1).toNat [D.int 0]).flatten.length) ∧ ∀ x : Int, D.int x :: (List.replicate ((1 : Int) * 2 ^ ((l : Int)).toNat - 1).toNat [D.int 0]).flatten = inL (flT l (pT l x)) := by
    intro l hl
    obtain rfl | rfl | rfl | rfl : l = 0 ∨ l = 1 ∨ l = 2 ∨ l = 3 := by omega
    all_goals exact ⟨⟨by decide, by decide +kernel⟩, ⟨by decide, by decide, fits_small (by decide)⟩, fits_small (by decide), fun _ => rfl⟩
  obtain ⟨k1, k2, k3, k4⟩ := key l hl3
  refine ⟨fits_small (by simp), k1, k2, k3, ?_⟩
  rw [k4 x]
  exact ⟨l, pT l x, rfl, hl3, hk⟩


theorem ok_lift_plain  (F : DefF K mg "lift_plain" s_lift_plain ["low", "high", "number"]) (m_range : mg "range" = none) (h_plain_integer : DefG P w K mg base "plain_integer" ["level", "number"] (2) w_plain_integer) : DefG P w K mg base "lift_plain" ["low", "high", "number"] (2 + 1) w_lift_plain := by
  obtain ⟨f_plain_integer, d_plain_integer, G_plain_integer, n_plain_integer, q_plain_integer, b_plain_integer⟩ := h_plain_integer.ex
  refine def_ok (k := 2) F sc_lift_plain (fun f cdv A outer s H E hg hr => (DSs.cons (DS.set (k := 3) (fun _ => sc_lift_plain.nd) (fun _ => rfl) (fun _ => (.inl rfl)) (DE.var fun _ => pv 2))
    (DSs.cons (DS.for (fun _ => passes_of rfl) (fun _ => rfl) (DI.range2 (fun _ => by rfl) (fun _ => m_range) (DA.cons (DE.var fun _ => pv 0) (DA.cons (DE.var fun _ => pv 1) DA.nil))) (DG.name (k := 4) (fun _ => pg_name sc_lift_plain.nd rfl (.inl rfl))) (DSs.one (DS.set (k := 3) (fun _ => sc_lift_plain.nd) (fun _ => rfl) (fun _ => (.inl rfl)) (DE.tup (DA.cons (DE.var fun _ => pv 3) (DA.cons (DE.call (fun _ => G_plain_integer) (fun _ => hg) (fun _ => hr.mono (by omega)) (fun _ => takes_of rfl rfl rfl rfl) (fun _ => by rfl) (fun _ => n_plain_integer) (fun _ => q_plain_integer) (fun _ => b_plain_integer) (DA.cons (DE.var fun _ => pv 4) (DA.cons DE.int DA.nil))) DA.nil))))))
    (DSs.one (DS.ret (DE.var fun _ => pv 3)))))) fun ds Kd Kx n hl h => ?_
  obtain ⟨l, x, rfl, hl3, hk⟩ := h
  simp only [g_tup2, g_tup3, fNotN_at, fIsN_at, List.getElem?_cons_succ, List.getElem?_cons_zero, s_par3, s_lc, fCut_at, fAdd_lst, fAdd_tup, fList_lst, fList_tup, fTuple_lst, fMul_lst, items_lst, items_tup, range2_at, zip_at, s_body, s_seq, s_next, s_onE, s_onT, s_asg, s_par, s_for, s_raise, s_try, s_asgG, w_bind, w_pure, w_need, w_fail, w_calm, g_0, g_s, fEq_int, fNe_int, fEq_str, fNe_str, fInt_at, fInt0_at, fAdd_int, fCmp_at, fNeg_at, fLen_tup, fLen_lst, fIx_t0, fIx_l0, fIx_t1, fIx_l1, fIntC_at, fAbs_at, fGcd_at, fRepr_at, fBits_at, fIs_at, range_at, List.map_cons, List.map_nil, List.length_cons, List.length_nil, List.cons_append, List.nil_append, List.set_cons_zero, List.set_cons_succ, List.replicate, Nat.reduceAdd, Nat.reduceSub, List.append_nil, dName, true_and, and_true, Nat.zero_add, Nat.sub_self]
  have e : rangeD (l : Int) (((l + 1 : Nat) : Int) - (l : Int)).toNat = [.int l] := by
    rw [show (((l + 1 : Nat) : Int) - (l : Int)).toNat = 1 by omega]
    simp [rangeD]
  refine ⟨⟨⟨by omega, by omega⟩, ⟨by omega, by omega⟩⟩, ?_⟩
  rw [e]
  unfold forD forD
  simp only [g_tup2, g_tup3, fNotN_at, fIsN_at, List.getElem?_cons_succ, List.getElem?_cons_zero, s_par3, s_lc, fCut_at, fAdd_lst, fAdd_tup, fList_lst, fList_tup, fTuple_lst, fMul_lst, items_lst, items_tup, range2_at, zip_at, s_body, s_seq, s_next, s_onE, s_onT, s_asg, s_par, s_for, s_raise, s_try, s_asgG, w_bind, w_pure, w_need, w_fail, w_calm, g_0, g_s, fEq_int, fNe_int, fEq_str, fNe_str, fInt_at, fInt0_at, fAdd_int, fCmp_at, fNeg_at, fLen_tup, fLen_lst, fIx_t0, fIx_l0, fIx_t1, fIx_l1, fIntC_at, fAbs_at, fGcd_at, fRepr_at, fBits_at, fIs_at, range_at, List.map_cons, List.map_nil, List.length_cons, List.length_nil, List.cons_append, List.nil_append, List.set_cons_zero, List.set_cons_succ, List.replicate, Nat.reduceAdd, Nat.reduceSub, List.append_nil, dName, true_and, and_true, Nat.zero_add, Nat.sub_self]
  refine ⟨l, 0, rfl, by omega, ?_⟩
  refine ⟨fits_small (by simp), ?_⟩
  rw [pT_zero]
  exact hk


theorem ok_sum_plain  (F : DefF K mg "sum_plain" s_sum_plain ["level", "one", "other"]) (h_built : DefG P w K mg base "built" ["level", "row"] (1) w_built) (m_zip : mg "zip" = none) (h_flat_numbers : DefG P w K mg base "flat_numbers" ["level", "number"] (1) w_flat_numbers) : DefG P w K mg base "sum_plain" ["level", "one", "other"] (1 + 1) w_sum_plain := by
  obtain ⟨f_built, d_built, G_built, n_built, q_built, b_built⟩ := h_built.ex
  obtain ⟨f_flat_numbers, d_flat_numbers, G_flat_numbers, n_flat_numbers, q_flat_numbers, b_flat_numbers⟩ := h_flat_numbers.ex
  refine def_ok (k := 1) F sc_sum_plain (fun f cdv A outer s H E hg hr => (DSs.cons (DS.par (i := 3) (j := 4) (fun _ => rfl) (fun _ => sc_sum_plain.nd) (fun _ => rfl) (fun _ => rfl) (by decide) (fun _ => rfl) (fun _ => rfl) (DA.cons (DE.call (fun _ => G_flat_numbers) (fun _ => hg) (fun _ => hr.mono (by omega)) (fun _ => takes_of rfl rfl rfl rfl) (fun _ => by rfl) (fun _ => n_flat_numbers) (fun _ => q_flat_numbers) (fun _ => b_flat_numbers) (DA.cons (DE.var fun _ => pv 0) (DA.cons (DE.var fun _ => pv 1) DA.nil))) (DA.cons (DE.call (fun _ => G_flat_numbers) (fun _ => hg) (fun _ => hr.mono (by omega)) (fun _ => takes_of rfl rfl rfl rfl) (fun _ => by rfl) (fun _ => n_flat_numbers) (fun _ => q_flat_numbers) (fun _ => b_flat_numbers) (DA.cons (DE.var fun _ => pv 0) (DA.cons (DE.var fun _ => pv 2) DA.nil))) DA.nil)) (fun _ => by rfl))
    (DSs.one (DS.ret (DE.call (fun _ => G_built) (fun _ => hg) (fun _ => hr.mono (by omega)) (fun _ => takes_of rfl rfl rfl rfl) (fun _ => by rfl) (fun _ => n_built) (fun _ => q_built) (fun _ => b_built) (DA.cons (DE.var fun _ => pv 0) (DA.cons (DE.lc (own := [("a", 5), ("b", 6)]) (fun _ => rfl) (fun _ => sc_sum_plain.nd) (DI.zip (fun _ => rfl) (fun _ => by rfl) (fun _ => m_zip) (DA.cons (DE.var fun _ => pv 3) (DA.cons (DE.var fun _ => pv 4) DA.nil))) (fun _ => blkOk_by (N := ["level", "one", "other", "first", "second", "a", "b"]) (sc := defScope s_sum_plain) (by decide +kernel)) (DG.tup (m := 2) (fun _ => rfl) (fun _ => rfl) (DGs.cons (DG.name (k := 5) (fun _ => pg_name sc_sum_plain.nd rfl (.inl rfl))) (DGs.cons (DG.name (k := 6) (fun _ => pg_name sc_sum_plain.nd rfl (.inl rfl))) DGs.nil))) DTs.nil (DE.op2 (fun _ _ _ p q => pe_op op_addA p q) sem_add (DE.var fun _ => pv 5) (DE.var fun _ => pv 6))) DA.nil))))))) fun ds Kd Kx n hl h => ?_
  obtain ⟨l, x, y, rfl, hl3, hk⟩ := h
  simp only [g_tup2, g_tup3, fNotN_at, fIsN_at, List.getElem?_cons_succ, List.getElem?_cons_zero, s_par3, s_lc, fCut_at, fAdd_lst, fAdd_tup, fList_lst, fList_tup, fTuple_lst, fMul_lst, items_lst, items_tup, range2_at, zip_at, s_body, s_seq, s_next, s_onE, s_onT, s_asg, s_par, s_for, s_raise, s_try, s_asgG, w_bind, w_pure, w_need, w_fail, w_calm, g_0, g_s, fEq_int, fNe_int, fEq_str, fNe_str, fInt_at, fInt0_at, fAdd_int, fCmp_at, fNeg_at, fLen_tup, fLen_lst, fIx_t0, fIx_l0, fIx_t1, fIx_l1, fIntC_at, fAbs_at, fGcd_at, fRepr_at, fBits_at, fIs_at, range_at, List.map_cons, List.map_nil, List.length_cons, List.length_nil, List.cons_append, List.nil_append, List.set_cons_zero, List.set_cons_succ, List.replicate, Nat.reduceAdd, Nat.reduceSub, List.append_nil, dName, true_and, and_true, Nat.zero_add, Nat.sub_self]
  refine ⟨l, x, rfl, hl3, ?_⟩
  refine ⟨l, y, rfl, hl3, ?_⟩
  simp only [g_tup2, g_tup3, fNotN_at, fIsN_at, List.getElem?_cons_succ, List.getElem?_cons_zero, s_par3, s_lc, fCut_at, fAdd_lst, fAdd_tup, fList_lst, fList_tup, fTuple_lst, fMul_lst, items_lst, items_tup, range2_at, zip_at, s_body, s_seq, s_next, s_onE, s_onT, s_asg, s_par, s_for, s_raise, s_try, s_asgG, w_bind, w_pure, w_need, w_fail, w_calm, g_0, g_s, fEq_int, fNe_int, fEq_str, fNe_str, fInt_at, fInt0_at, fAdd_int, fCmp_at, fNeg_at, fLen_tup, fLen_lst, fIx_t0, fIx_l0, fIx_t1, fIx_l1, fIntC_at, fAbs_at, fGcd_at, fRepr_at, fBits_at, fIs_at, range_at, List.map_cons, List.map_nil, List.length_cons, List.length_nil, List.cons_append, List.nil_append, List.set_cons_zero, List.set_cons_succ, List.replicate, Nat.reduceAdd, Nat.reduceSub, List.append_nil, dName, true_and, and_true, Nat.zero_add, Nat.sub_self]
  have h8 : 2 ^ l ≤ 2 ^ 3 := Nat.pow_le_pow_right (by decide) hl3
  have fx := flT_len l x
  have fy := flT_len l y
  have e0 : ((inL (flT l x)).zip (inL (flT l y))).map (fun p => D.tup [p.1, p.2]) = ((flT l x).zip (flT l y)).map (fun p => D.tup [.int p.1, .int p.2]) := by
    unfold inL
    rw [List.zip_map, List.map_map]
    rfl
  rw [e0]
  refine lcD_map (f := fun t => match t with | .tup [.int a, .int b] => .int (a + b) | _ => .non) _ [] _ (by rw [sizeLine_eq]; simp [fx, fy]; omega) (fun t ht => ?_) ?_
  · obtain ⟨⟨a, b⟩, _, rfl⟩ := List.mem_map.mp ht
    exact ⟨_, rfl, fun K' hK => hK⟩
  · rw [List.map_map, List.nil_append]
    have e1 : ((flT l x).zip (flT l y)).map ((fun t => match t with | D.tup [.int a, .int b] => D.int (a + b) | _ => .non) ∘ fun p => D.tup [.int p.1, .int p.2]) = inL (flT l (addT l x y)) := by
      rw [← flT_add, inL, List.map_map]
      rfl
    rw [e1]
    exact ⟨l, _, rfl, hl3, hk⟩


theorem ok_times_int  (F : DefF K mg "times_int" s_times_int ["level", "one", "number"]) (h_built : DefG P w K mg base "built" ["level", "row"] (1) w_built) (h_flat_numbers : DefG P w K mg base "flat_numbers" ["level", "number"] (1) w_flat_numbers) : DefG P w K mg base "times_int" ["level", "one", "number"] (1 + 1) w_times_int := by
  obtain ⟨f_built, d_built, G_built, n_built, q_built, b_built⟩ := h_built.ex
  obtain ⟨f_flat_numbers, d_flat_numbers, G_flat_numbers, n_flat_numbers, q_flat_numbers, b_flat_numbers⟩ := h_flat_numbers.ex
  refine def_ok (k := 1) F sc_times_int (fun f cdv A outer s H E hg hr => (DSs.one (DS.ret (DE.call (fun _ => G_built) (fun _ => hg) (fun _ => hr.mono (by omega)) (fun _ => takes_of rfl rfl rfl rfl) (fun _ => by rfl) (fun _ => n_built) (fun _ => q_built) (fun _ => b_built) (DA.cons (DE.var fun _ => pv 0) (DA.cons (DE.lc (own := [("item", 3)]) (fun _ => rfl) (fun _ => sc_times_int.nd) (DI.seq (fun _ => rfl) (DE.call (fun _ => G_flat_numbers) (fun _ => hg) (fun _ => hr.mono (by omega)) (fun _ => takes_of rfl rfl rfl rfl) (fun _ => by rfl) (fun _ => n_flat_numbers) (fun _ => q_flat_numbers) (fun _ => b_flat_numbers) (DA.cons (DE.var fun _ => pv 0) (DA.cons (DE.var fun _ => pv 1) DA.nil)))) (fun _ => blkOk_by (N := ["level", "one", "number", "item"]) (sc := defScope s_times_int) (by decide +kernel)) (DG.name (k := 3) (fun _ => pg_name sc_times_int.nd rfl (.inl rfl))) DTs.nil (DE.op2 (fun _ _ _ p q => pe_op op_mulW p q) sem_int (DE.var fun _ => pv 2) (DE.var fun _ => pv 3))) DA.nil)))))) fun ds Kd Kx n hl h => ?_
  obtain ⟨l, x, k, q, rfl, ⟨hl3, hb, hq, hk4⟩, hk⟩ := h
  simp only [g_tup2, g_tup3, fNotN_at, fIsN_at, List.getElem?_cons_succ, List.getElem?_cons_zero, s_par3, s_lc, fCut_at, fAdd_lst, fAdd_tup, fList_lst, fList_tup, fTuple_lst, fMul_lst, items_lst, items_tup, range2_at, zip_at, s_body, s_seq, s_next, s_onE, s_onT, s_asg, s_par, s_for, s_raise, s_try, s_asgG, w_bind, w_pure, w_need, w_fail, w_calm, g_0, g_s, fEq_int, fNe_int, fEq_str, fNe_str, fInt_at, fInt0_at, fAdd_int, fCmp_at, fNeg_at, fLen_tup, fLen_lst, fIx_t0, fIx_l0, fIx_t1, fIx_l1, fIntC_at, fAbs_at, fGcd_at, fRepr_at, fBits_at, fIs_at, range_at, List.map_cons, List.map_nil, List.length_cons, List.length_nil, List.cons_append, List.nil_append, List.set_cons_zero, List.set_cons_succ, List.replicate, Nat.reduceAdd, Nat.reduceSub, List.append_nil, dName, true_and, and_true, Nat.zero_add, Nat.sub_self]
  refine ⟨l, x, rfl, hl3, ?_⟩
  simp only [g_tup2, g_tup3, fNotN_at, fIsN_at, List.getElem?_cons_succ, List.getElem?_cons_zero, s_par3, s_lc, fCut_at, fAdd_lst, fAdd_tup, fList_lst, fList_tup, fTuple_lst, fMul_lst, items_lst, items_tup, range2_at, zip_at, s_body, s_seq, s_next, s_onE, s_onT, s_asg, s_par, s_for, s_raise, s_try, s_asgG, w_bind, w_pure, w_need, w_fail, w_calm, g_0, g_s, fEq_int, fNe_int, fEq_str, fNe_str, fInt_at, fInt0_at, fAdd_int, fCmp_at, fNeg_at, fLen_tup, fLen_lst, fIx_t0, fIx_l0, fIx_t1, fIx_l1, fIntC_at, fAbs_at, fGcd_at, fRepr_at, fBits_at, fIs_at, range_at, List.map_cons, List.map_nil, List.length_cons, List.length_nil, List.cons_append, List.nil_append, List.set_cons_zero, List.set_cons_succ, List.replicate, Nat.reduceAdd, Nat.reduceSub, List.append_nil, dName, true_and, and_true, Nat.zero_add, Nat.sub_self]
  have h8 : 2 ^ l ≤ 2 ^ 3 := Nat.pow_le_pow_right (by decide) hl3
  have fx := flT_len l x
  refine lcD_map (f := fun t => match t with | .int a => .int (k * a) | _ => .non) _ [] _ (by rw [sizeLine_eq]; simp [inL, fx]; omega) (fun t ht => ?_) ?_
  · obtain ⟨a, ha, rfl⟩ := List.mem_map.mp ht
    have hba := Bd.all hb a ha
    exact ⟨_, rfl, fun K' hK => ⟨wide_mul (a := 3) (b := 400000) (by omega) (Nat.lt_of_lt_of_le hba (Nat.pow_le_pow_right (by decide) hq)) (by decide) (by decide) (by decide), hK⟩⟩
  · rw [List.nil_append]
    have e1 : (inL (flT l x)).map (fun t => match t with | .int a => .int (k * a) | _ => .non) = inL (flT l (sg l k x)) := by
      unfold inL sg
      rw [← flT_map, List.map_map, List.map_map]
      rfl
    rw [e1]
    exact ⟨l, _, rfl, hl3, hk⟩


theorem ok_less_plain  (F : DefF K mg "less_plain" s_less_plain ["level", "one", "other"]) (h_sum_plain : DefG P w K mg base "sum_plain" ["level", "one", "other"] (2) w_sum_plain) (h_times_int : DefG P w K mg base "times_int" ["level", "one", "number"] (2) w_times_int) : DefG P w K mg base "less_plain" ["level", "one", "other"] (2 + 1) w_less_plain := by
  obtain ⟨f_sum_plain, d_sum_plain, G_sum_plain, n_sum_plain, q_sum_plain, b_sum_plain⟩ := h_sum_plain.ex
  obtain ⟨f_times_int, d_times_int, G_times_int, n_times_int, q_times_int, b_times_int⟩ := h_times_int.ex
  refine def_ok (k := 2) F sc_less_plain (fun f cdv A outer s H E hg hr => (DSs.one (DS.ret (DE.call (fun _ => G_sum_plain) (fun _ => hg) (fun _ => hr.mono (by omega)) (fun _ => takes_of rfl rfl rfl rfl) (fun _ => by rfl) (fun _ => n_sum_plain) (fun _ => q_sum_plain) (fun _ => b_sum_plain) (DA.cons (DE.var fun _ => pv 0) (DA.cons (DE.var fun _ => pv 1) (DA.cons (DE.call (fun _ => G_times_int) (fun _ => hg) (fun _ => hr.mono (by omega)) (fun _ => takes_of rfl rfl rfl rfl) (fun _ => by rfl) (fun _ => n_times_int) (fun _ => q_times_int) (fun _ => b_times_int) (DA.cons (DE.var fun _ => pv 0) (DA.cons (DE.var fun _ => pv 2) (DA.cons (DE.op1 (fun _ _ p => pe_un un_neg p) sem_neg DE.int) DA.nil)))) DA.nil))))))) fun ds Kd Kx n hl h => ?_
  obtain ⟨l, x, y, q, rfl, ⟨hl3, hb, hq⟩, hk⟩ := h
  simp only [g_tup2, g_tup3, fNotN_at, fIsN_at, List.getElem?_cons_succ, List.getElem?_cons_zero, s_par3, s_lc, fCut_at, fAdd_lst, fAdd_tup, fList_lst, fList_tup, fTuple_lst, fMul_lst, items_lst, items_tup, range2_at, zip_at, s_body, s_seq, s_next, s_onE, s_onT, s_asg, s_par, s_for, s_raise, s_try, s_asgG, w_bind, w_pure, w_need, w_fail, w_calm, g_0, g_s, fEq_int, fNe_int, fEq_str, fNe_str, fInt_at, fInt0_at, fAdd_int, fCmp_at, fNeg_at, fLen_tup, fLen_lst, fIx_t0, fIx_l0, fIx_t1, fIx_l1, fIntC_at, fAbs_at, fGcd_at, fRepr_at, fBits_at, fIs_at, range_at, List.map_cons, List.map_nil, List.length_cons, List.length_nil, List.cons_append, List.nil_append, List.set_cons_zero, List.set_cons_succ, List.replicate, Nat.reduceAdd, Nat.reduceSub, List.append_nil, dName, true_and, and_true, Nat.zero_add, Nat.sub_self]
  exact ⟨l, y, -1, q, rfl, ⟨hl3, hb, hq, by decide⟩, l, x, _, rfl, hl3, hk⟩


theorem ok_product_plain {j : Nat} (F : DefF K mg "product_plain" s_product_plain ["roots", "one", "other"]) (h_sum_plain : DefG P w K mg base "sum_plain" ["level", "one", "other"] (2) w_sum_plain) (h_product_plain : DefG P w K mg base "product_plain" ["roots", "one", "other"] (j + 3) (w_product_plain j)) (m_len : mg "len" = none) : DefG P w K mg base "product_plain" ["roots", "one", "other"] (j + 3 + 1) (w_product_plain (j + 1)) := by
  obtain ⟨f_sum_plain, d_sum_plain, G_sum_plain, n_sum_plain, q_sum_plain, b_sum_plain⟩ := h_sum_plain.ex
  obtain ⟨f_product_plain, d_product_plain, G_product_plain, n_product_plain, q_product_plain, b_product_plain⟩ := h_product_plain.ex
  refine def_ok (k := j + 3) F sc_product_plain (fun f cdv A outer s H E hg hr => (DSs.cons (DS.set (k := 3) (fun _ => sc_product_plain.nd) (fun _ => rfl) (fun _ => (.inl rfl)) (DE.opL (fun _ _ ha => pe_callB call_lenA (by rfl) m_len (by decide +kernel) ha) sem_len (DA.cons (DE.var fun _ => pv 0) DA.nil)))
    (DSs.cons (DS.ifS (DT.cmp (fun _ => op_eqA hr.units) sem_eqA (DE.var fun _ => pv 3) DE.int) (DSs.one (DS.ret (DE.op2 (fun _ _ _ p q => pe_op op_mulW p q) sem_int (DE.var fun _ => pv 1) (DE.var fun _ => pv 2)))) DSs.nil)
    (DSs.cons (DS.par (i := 4) (j := 5) (fun _ => rfl) (fun _ => sc_product_plain.nd) (fun _ => rfl) (fun _ => rfl) (by decide) (fun _ => rfl) (fun _ => rfl) (DA.cons (DE.sl (fun _ => rfl) (DE.var fun _ => pv 0) DO.no (DO.so (DE.op1 (fun _ _ p => pe_un un_neg p) sem_neg DE.int))) (DA.cons (DE.op2 (fun _ _ _ p q => pe_ix ix_seq p q (fun _ _ => rfl)) sem_ix (DE.var fun _ => pv 0) (DE.op1 (fun _ _ p => pe_un un_neg p) sem_neg DE.int)) DA.nil)) (fun _ => by rfl))
    (DSs.cons (DS.set (k := 6) (fun _ => sc_product_plain.nd) (fun _ => rfl) (fun _ => (.inl rfl)) (DE.call (fun _ => G_product_plain) (fun _ => hg) (fun _ => hr.mono (by omega)) (fun _ => takes_of rfl rfl rfl rfl) (fun _ => by rfl) (fun _ => n_product_plain) (fun _ => q_product_plain) (fun _ => b_product_plain) (DA.cons (DE.var fun _ => pv 4) (DA.cons (DE.call (fun _ => G_product_plain) (fun _ => hg) (fun _ => hr.mono (by omega)) (fun _ => takes_of rfl rfl rfl rfl) (fun _ => by rfl) (fun _ => n_product_plain) (fun _ => q_product_plain) (fun _ => b_product_plain) (DA.cons (DE.var fun _ => pv 4) (DA.cons (DE.op2 (fun _ _ _ p q => pe_ix ix_seq p q (fun _ _ => rfl)) sem_ix (DE.var fun _ => pv 1) DE.int) (DA.cons (DE.op2 (fun _ _ _ p q => pe_ix ix_seq p q (fun _ _ => rfl)) sem_ix (DE.var fun _ => pv 2) DE.int) DA.nil)))) (DA.cons (DE.var fun _ => pv 5) DA.nil)))))
    (DSs.cons (DS.set (k := 7) (fun _ => sc_product_plain.nd) (fun _ => rfl) (fun _ => (.inl rfl)) (DE.call (fun _ => G_sum_plain) (fun _ => hg) (fun _ => hr.mono (by omega)) (fun _ => takes_of rfl rfl rfl rfl) (fun _ => by rfl) (fun _ => n_sum_plain) (fun _ => q_sum_plain) (fun _ => b_sum_plain) (DA.cons (DE.op2 (fun _ _ _ p q => pe_op op_sub p q) sem_int0 (DE.var fun _ => pv 3) DE.int) (DA.cons (DE.call (fun _ => G_product_plain) (fun _ => hg) (fun _ => hr.mono (by omega)) (fun _ => takes_of rfl rfl rfl rfl) (fun _ => by rfl) (fun _ => n_product_plain) (fun _ => q_product_plain) (fun _ => b_product_plain) (DA.cons (DE.var fun _ => pv 4) (DA.cons (DE.op2 (fun _ _ _ p q => pe_ix ix_seq p q (fun _ _ => rfl)) sem_ix (DE.var fun _ => pv 1) DE.int) (DA.cons (DE.op2 (fun _ _ _ p q => pe_ix ix_seq p q (fun _ _ => rfl)) sem_ix (DE.var fun _ => pv 2) DE.int) DA.nil)))) (DA.cons (DE.var fun _ => pv 6) DA.nil)))))
    (DSs.one (DS.ret (DE.tup (DA.cons (DE.var fun _ => pv 7) (DA.cons (DE.call (fun _ => G_sum_plain) (fun _ => hg) (fun _ => hr.mono (by omega)) (fun _ => takes_of rfl rfl rfl rfl) (fun _ => by rfl) (fun _ => n_sum_plain) (fun _ => q_sum_plain) (fun _ => b_sum_plain) (DA.cons (DE.op2 (fun _ _ _ p q => pe_op op_sub p q) sem_int0 (DE.var fun _ => pv 3) DE.int) (DA.cons (DE.call (fun _ => G_product_plain) (fun _ => hg) (fun _ => hr.mono (by omega)) (fun _ => takes_of rfl rfl rfl rfl) (fun _ => by rfl) (fun _ => n_product_plain) (fun _ => q_product_plain) (fun _ => b_product_plain) (DA.cons (DE.var fun _ => pv 4) (DA.cons (DE.op2 (fun _ _ _ p q => pe_ix ix_seq p q (fun _ _ => rfl)) sem_ix (DE.var fun _ => pv 1) DE.int) (DA.cons (DE.op2 (fun _ _ _ p q => pe_ix ix_seq p q (fun _ _ => rfl)) sem_ix (DE.var fun _ => pv 2) DE.int) DA.nil)))) (DA.cons (DE.call (fun _ => G_product_plain) (fun _ => hg) (fun _ => hr.mono (by omega)) (fun _ => takes_of rfl rfl rfl rfl) (fun _ => by rfl) (fun _ => n_product_plain) (fun _ => q_product_plain) (fun _ => b_product_plain) (DA.cons (DE.var fun _ => pv 4) (DA.cons (DE.op2 (fun _ _ _ p q => pe_ix ix_seq p q (fun _ _ => rfl)) sem_ix (DE.var fun _ => pv 1) DE.int) (DA.cons (DE.op2 (fun _ _ _ p q => pe_ix ix_seq p q (fun _ _ => rfl)) sem_ix (DE.var fun _ => pv 2) DE.int) DA.nil)))) DA.nil)))) DA.nil))))))))))) fun ds Kd Kx n hl h => ?_
  obtain ⟨l, r, x, y, p, q, rfl, ⟨hlj, hl3, hr, hx, hy, hpq⟩, hk⟩ := h
  cases l with
  | zero =>
    simp only [cut_last, fIx_last, dT_succ, lsub, rL_succ, rL_len, List.length_append, rD, g_tup2, g_tup3, fNotN_at, fIsN_at, List.getElem?_cons_succ, List.getElem?_cons_zero, s_par3, s_lc, fCut_at, fAdd_lst, fAdd_tup, fList_lst, fList_tup, fTuple_lst, fMul_lst, items_lst, items_tup, range2_at, zip_at, s_body, s_seq, s_next, s_onE, s_onT, s_asg, s_par, s_for, s_raise, s_try, s_asgG, w_bind, w_pure, w_need, w_fail, w_calm, g_0, g_s, fEq_int, fNe_int, fEq_str, fNe_str, fInt_at, fInt0_at, fAdd_int, fCmp_at, fNeg_at, fLen_tup, fLen_lst, fIx_t0, fIx_l0, fIx_t1, fIx_l1, fIntC_at, fAbs_at, fGcd_at, fRepr_at, fBits_at, fIs_at, range_at, List.map_cons, List.map_nil, List.length_cons, List.length_nil, List.cons_append, List.nil_append, List.set_cons_zero, List.set_cons_succ, List.replicate, Nat.reduceAdd, Nat.reduceSub, List.append_nil, dName, true_and, and_true, Nat.zero_add, Nat.sub_self]
    refine ifT (by simp) ?_
    have hx : (show Int from x).natAbs < 2 ^ (p + 1) := hx.mono (Nat.le_succ p)
    have hy : (show Int from y).natAbs < 2 ^ (q + 1) := hy.mono (Nat.le_succ q)
    exact ⟨wide_mul (a := p + 1) (b := q + 1) hx hy (by omega) (by omega) (by unfold cc at hpq; omega), hk⟩
  | succ l =>
    simp only [cut_last, fIx_last, dT_succ, lsub, rL_succ, rL_len, List.length_append, rD, g_tup2, g_tup3, fNotN_at, fIsN_at, List.getElem?_cons_succ, List.getElem?_cons_zero, s_par3, s_lc, fCut_at, fAdd_lst, fAdd_tup, fList_lst, fList_tup, fTuple_lst, fMul_lst, items_lst, items_tup, range2_at, zip_at, s_body, s_seq, s_next, s_onE, s_onT, s_asg, s_par, s_for, s_raise, s_try, s_asgG, w_bind, w_pure, w_need, w_fail, w_calm, g_0, g_s, fEq_int, fNe_int, fEq_str, fNe_str, fInt_at, fInt0_at, fAdd_int, fCmp_at, fNeg_at, fLen_tup, fLen_lst, fIx_t0, fIx_l0, fIx_t1, fIx_l1, fIntC_at, fAbs_at, fGcd_at, fRepr_at, fBits_at, fIs_at, range_at, List.map_cons, List.map_nil, List.length_cons, List.length_nil, List.cons_append, List.nil_append, List.set_cons_zero, List.set_cons_succ, List.replicate, Nat.reduceAdd, Nat.reduceSub, List.append_nil, dName, true_and, and_true, Nat.zero_add, Nat.sub_self]
    refine ifF (by simp; omega) ?_
    unfold cc at hpq
    have b1 := Bd.mul hr.1 hx.2 hy.2
    have hlj : l < j := by omega
    refine ⟨l, r.1, x.2, y.2, p, q, rfl, ⟨hlj, by omega, hr.1, hx.2, hy.2, by omega⟩, ?_⟩
    refine ⟨l, r.1, _, r.2, p + q + cc l, 3, rfl, ⟨hlj, by omega, hr.1, b1, hr.2, by omega⟩, ?_⟩
    refine ⟨l, r.1, x.1, y.1, p, q, rfl, ⟨hlj, by omega, hr.1, hx.1, hy.1, by omega⟩, ?_⟩
    refine ⟨l, _, _, rfl, by omega, ?_⟩
    refine ⟨l, r.1, x.1, y.2, p, q, rfl, ⟨hlj, by omega, hr.1, hx.1, hy.2, by omega⟩, ?_⟩
    refine ⟨l, r.1, x.2, y.1, p, q, rfl, ⟨hlj, by omega, hr.1, hx.2, hy.1, by omega⟩, ?_⟩
    refine ⟨l, _, _, rfl, by omega, ?_⟩
    exact ⟨fits_small (by simp), hk⟩
theorem rec_product_plain (F : DefF K mg "product_plain" s_product_plain ["roots", "one", "other"]) (m_len : mg "len" = none) (h_sum_plain : DefG P w K mg base "sum_plain" ["level", "one", "other"] 2 w_sum_plain) : DefG P w K mg base "product_plain" ["roots", "one", "other"] 8 (w_product_plain 4) := by
  have go : ∀ j, DefG P w K mg base "product_plain" ["roots", "one", "other"] (j + 3) (w_product_plain j) := by
    intro j
    induction j with
    | zero => exact def_false F fun ds Kd Kx n ⟨l, r, x, y, p, q, h1, h2, h3⟩ => absurd h2.1 (Nat.not_lt_zero _)
    | succ j ih => exact ok_product_plain (F := F) (h_sum_plain := h_sum_plain) (h_product_plain := ih) (m_len := m_len)
  exact (go 4).mono (by decide)

theorem ok_zero_plain  (F : DefF K mg "zero_plain" s_zero_plain ["level", "number"]) (m_all : mg "all" = none) (h_flat_numbers : DefG P w K mg base "flat_numbers" ["level", "number"] (1) w_flat_numbers) : DefG P w K mg base "zero_plain" ["level", "number"] (1 + 1) w_zero_plain := by
  obtain ⟨f_flat_numbers, d_flat_numbers, G_flat_numbers, n_flat_numbers, q_flat_numbers, b_flat_numbers⟩ := h_flat_numbers.ex
  refine def_ok (k := 1) F sc_zero_plain (fun f cdv A outer s H E hg hr => (DSs.one (DS.ret (DE.opL (fun _ _ ha => pe_callB (cr_all rfl) (by rfl) m_all (by decide +kernel) ha) sem_all (DA.cons (DE.lc (own := [("item", 2)]) (fun _ => rfl) (fun _ => sc_zero_plain.nd) (DI.seq (fun _ => rfl) (DE.call (fun _ => G_flat_numbers) (fun _ => hg) (fun _ => hr.mono (by omega)) (fun _ => takes_of rfl rfl rfl rfl) (fun _ => by rfl) (fun _ => n_flat_numbers) (fun _ => q_flat_numbers) (fun _ => b_flat_numbers) (DA.cons (DE.var fun _ => pv 0) (DA.cons (DE.var fun _ => pv 1) DA.nil)))) (fun _ => blkOk_by (N := ["level", "number", "item"]) (sc := defScope s_zero_plain) (by decide +kernel)) (DG.name (k := 2) (fun _ => pg_name sc_zero_plain.nd rfl (.inl rfl))) DTs.nil (DE.cmp (fun _ => op_eqA hr.units) sem_eqA (DE.var fun _ => pv 2) DE.int)) DA.nil))))) fun ds Kd Kx n hl h => ?_
  obtain ⟨l, x, rfl, hl3, hk⟩ := h
  simp only [g_tup2, g_tup3, fNotN_at, fIsN_at, List.getElem?_cons_succ, List.getElem?_cons_zero, s_par3, s_lc, fCut_at, fAdd_lst, fAdd_tup, fList_lst, fList_tup, fTuple_lst, fMul_lst, items_lst, items_tup, range2_at, zip_at, s_body, s_seq, s_next, s_onE, s_onT, s_asg, s_par, s_for, s_raise, s_try, s_asgG, w_bind, w_pure, w_need, w_fail, w_calm, g_0, g_s, fEq_int, fNe_int, fEq_str, fNe_str, fInt_at, fInt0_at, fAdd_int, fCmp_at, fNeg_at, fLen_tup, fLen_lst, fIx_t0, fIx_l0, fIx_t1, fIx_l1, fIntC_at, fAbs_at, fGcd_at, fRepr_at, fBits_at, fIs_at, range_at, List.map_cons, List.map_nil, List.length_cons, List.length_nil, List.cons_append, List.nil_append, List.set_cons_zero, List.set_cons_succ, List.replicate, Nat.reduceAdd, Nat.reduceSub, List.append_nil, dName, true_and, and_true, Nat.zero_add, Nat.sub_self]
  refine ⟨l, x, rfl, hl3, ?_⟩
  simp only [g_tup2, g_tup3, fNotN_at, fIsN_at, List.getElem?_cons_succ, List.getElem?_cons_zero, s_par3, s_lc, fCut_at, fAdd_lst, fAdd_tup, fList_lst, fList_tup, fTuple_lst, fMul_lst, items_lst, items_tup, range2_at, zip_at, s_body, s_seq, s_next, s_onE, s_onT, s_asg, s_par, s_for, s_raise, s_try, s_asgG, w_bind, w_pure, w_need, w_fail, w_calm, g_0, g_s, fEq_int, fNe_int, fEq_str, fNe_str, fInt_at, fInt0_at, fAdd_int, fCmp_at, fNeg_at, fLen_tup, fLen_lst, fIx_t0, fIx_l0, fIx_t1, fIx_l1, fIntC_at, fAbs_at, fGcd_at, fRepr_at, fBits_at, fIs_at, range_at, List.map_cons, List.map_nil, List.length_cons, List.length_nil, List.cons_append, List.nil_append, List.set_cons_zero, List.set_cons_succ, List.replicate, Nat.reduceAdd, Nat.reduceSub, List.append_nil, dName, true_and, and_true, Nat.zero_add, Nat.sub_self]
  have h8 : 2 ^ l ≤ 2 ^ 3 := Nat.pow_le_pow_right (by decide) hl3
  have fx := flT_len l x
  refine lcD_map (f := fun t => match t with | .int a => .bl (decide (a = 0)) | _ => .non) _ [] _ (by rw [sizeLine_eq]; simp [inL, fx]; omega) (fun t ht => ?_) ?_
  · obtain ⟨a, ha, rfl⟩ := List.mem_map.mp ht
    exact ⟨_, rfl, fun K' hK => hK⟩
  · rw [List.nil_append]
    have e1 : (inL (flT l x)).map (fun t => match t with | .int a => D.bl (decide (a = 0)) | _ => .non) = ((flT l x).map fun a => decide (a = 0)).map D.bl := by
      unfold inL
      rw [List.map_map, List.map_map]
      rfl
    rw [e1, fAll_bools, List.all_map]
    rw [← flT_zB] at hk
    exact hk


theorem ok_root_in {j : Nat} (F : DefF K mg "root_in" s_root_in ["roots", "number"]) (h_mixed_root : DefG P w K mg base "mixed_root" ["roots", "number"] (2 * j + 10) (w_mixed_root j)) (h_zero_plain : DefG P w K mg base "zero_plain" ["level", "number"] (2) w_zero_plain) (h_flat_root : DefG P w K mg base "flat_root" ["roots", "number"] (2 * j + 10) (w_flat_root j)) (h_plain_integer : DefG P w K mg base "plain_integer" ["level", "number"] (2) w_plain_integer) (h_whole_root : DefG P w K mg base "whole_root" ["number"] (1) w_whole_root) (m_len : mg "len" = none) : DefG P w K mg base "root_in" ["roots", "number"] (2 * j + 10 + 1) (w_root_in (j + 1)) := by
  obtain ⟨f_mixed_root, d_mixed_root, G_mixed_root, n_mixed_root, q_mixed_root, b_mixed_root⟩ := h_mixed_root.ex
  obtain ⟨f_zero_plain, d_zero_plain, G_zero_plain, n_zero_plain, q_zero_plain, b_zero_plain⟩ := h_zero_plain.ex
  obtain ⟨f_flat_root, d_flat_root, G_flat_root, n_flat_root, q_flat_root, b_flat_root⟩ := h_flat_root.ex
  obtain ⟨f_plain_integer, d_plain_integer, G_plain_integer, n_plain_integer, q_plain_integer, b_plain_integer⟩ := h_plain_integer.ex
  obtain ⟨f_whole_root, d_whole_root, G_whole_root, n_whole_root, q_whole_root, b_whole_root⟩ := h_whole_root.ex
  refine def_ok (k := 2 * j + 10) F sc_root_in (fun f cdv A outer s H E hg hr => (DSs.cons (DS.set (k := 2) (fun _ => sc_root_in.nd) (fun _ => rfl) (fun _ => (.inl rfl)) (DE.opL (fun _ _ ha => pe_callB call_lenA (by rfl) m_len (by decide +kernel) ha) sem_len (DA.cons (DE.var fun _ => pv 0) DA.nil)))
    (DSs.cons (DS.ifS (DT.cmp (fun _ => op_eqA hr.units) sem_eqA (DE.var fun _ => pv 2) DE.int) (DSs.cons (DS.set (k := 3) (fun _ => sc_root_in.nd) (fun _ => rfl) (fun _ => (.inl rfl)) (DE.call (fun _ => G_whole_root) (fun _ => hg) (fun _ => hr.mono (by omega)) (fun _ => takes_of rfl rfl rfl rfl) (fun _ => by rfl) (fun _ => n_whole_root) (fun _ => q_whole_root) (fun _ => b_whole_root) (DA.cons (DE.var fun _ => pv 1) DA.nil)))
    (DSs.one (DS.ret (DE.ifExp (DT.cmp (fun _ => op_isN) sem_isN (DE.var fun _ => pv 3) DE.non) DE.non (DE.tup (DA.cons (DE.var fun _ => pv 3) (DA.cons DE.int DA.nil))))))) DSs.nil)
    (DSs.cons (DS.ifS (DT.val (DE.call (fun _ => G_zero_plain) (fun _ => hg) (fun _ => hr.mono (by omega)) (fun _ => takes_of rfl rfl rfl rfl) (fun _ => by rfl) (fun _ => n_zero_plain) (fun _ => q_zero_plain) (fun _ => b_zero_plain) (DA.cons (DE.var fun _ => pv 2) (DA.cons (DE.var fun _ => pv 1) DA.nil)))) (DSs.one (DS.ret (DE.tup (DA.cons (DE.var fun _ => pv 1) (DA.cons (DE.call (fun _ => G_plain_integer) (fun _ => hg) (fun _ => hr.mono (by omega)) (fun _ => takes_of rfl rfl rfl rfl) (fun _ => by rfl) (fun _ => n_plain_integer) (fun _ => q_plain_integer) (fun _ => b_plain_integer) (DA.cons (DE.var fun _ => pv 2) (DA.cons DE.int DA.nil))) DA.nil))))) DSs.nil)
    (DSs.cons (DS.ifS (DT.val (DE.call (fun _ => G_zero_plain) (fun _ => hg) (fun _ => hr.mono (by omega)) (fun _ => takes_of rfl rfl rfl rfl) (fun _ => by rfl) (fun _ => n_zero_plain) (fun _ => q_zero_plain) (fun _ => b_zero_plain) (DA.cons (DE.op2 (fun _ _ _ p q => pe_op op_sub p q) sem_int0 (DE.var fun _ => pv 2) DE.int) (DA.cons (DE.op2 (fun _ _ _ p q => pe_ix ix_seq p q (fun _ _ => rfl)) sem_ix (DE.var fun _ => pv 1) DE.int) DA.nil)))) (DSs.one (DS.ret (DE.call (fun _ => G_flat_root) (fun _ => hg) (fun _ => hr.mono (by omega)) (fun _ => takes_of rfl rfl rfl rfl) (fun _ => by rfl) (fun _ => n_flat_root) (fun _ => q_flat_root) (fun _ => b_flat_root) (DA.cons (DE.var fun _ => pv 0) (DA.cons (DE.op2 (fun _ _ _ p q => pe_ix ix_seq p q (fun _ _ => rfl)) sem_ix (DE.var fun _ => pv 1) DE.int) DA.nil))))) DSs.nil)
    (DSs.one (DS.ret (DE.call (fun _ => G_mixed_root) (fun _ => hg) (fun _ => hr.mono (by omega)) (fun _ => takes_of rfl rfl rfl rfl) (fun _ => by rfl) (fun _ => n_mixed_root) (fun _ => q_mixed_root) (fun _ => b_mixed_root) (DA.cons (DE.var fun _ => pv 0) (DA.cons (DE.var fun _ => pv 1) DA.nil)))))))))) fun ds Kd Kx n hl h => ?_
  obtain ⟨l, r, x, rfl, ⟨hlj, hl2, hr, hx⟩, hk⟩ := h
  cases l with
  | zero =>
    simp only [cut_last, fIx_last, dT_succ, lsub, rL_succ, rL_len, List.length_append, rD, g_tup2, g_tup3, fNotN_at, fIsN_at, List.getElem?_cons_succ, List.getElem?_cons_zero, s_par3, s_lc, fCut_at, fAdd_lst, fAdd_tup, fList_lst, fList_tup, fTuple_lst, fMul_lst, items_lst, items_tup, range2_at, zip_at, s_body, s_seq, s_next, s_onE, s_onT, s_asg, s_par, s_for, s_raise, s_try, s_asgG, w_bind, w_pure, w_need, w_fail, w_calm, g_0, g_s, fEq_int, fNe_int, fEq_str, fNe_str, fInt_at, fInt0_at, fAdd_int, fCmp_at, fNeg_at, fLen_tup, fLen_lst, fIx_t0, fIx_l0, fIx_t1, fIx_l1, fIntC_at, fAbs_at, fGcd_at, fRepr_at, fBits_at, fIs_at, range_at, List.map_cons, List.map_nil, List.length_cons, List.length_nil, List.cons_append, List.nil_append, List.set_cons_zero, List.set_cons_succ, List.replicate, Nat.reduceAdd, Nat.reduceSub, List.append_nil, dName, true_and, and_true, Nat.zero_add, Nat.sub_self]
    refine ifT (by simp) ?_
    refine ⟨Nat.lt_of_lt_of_le hx (Nat.pow_le_pow_right (by decide) (by decide)), ?_⟩
    have e : rootIn 0 r x = (rootO x).map fun i => (i, (1 : Int)) := by unfold rootIn; rfl
    rw [e] at hk
    cases q : rootO x with
    | none =>
      rw [q] at hk
      exact hk
    | some i =>
      rw [q] at hk
      exact ⟨fits_small (by simp), hk⟩
  | succ l =>
    simp only [cut_last, fIx_last, dT_succ, lsub, rL_succ, rL_len, List.length_append, rD, g_tup2, g_tup3, fNotN_at, fIsN_at, List.getElem?_cons_succ, List.getElem?_cons_zero, s_par3, s_lc, fCut_at, fAdd_lst, fAdd_tup, fList_lst, fList_tup, fTuple_lst, fMul_lst, items_lst, items_tup, range2_at, zip_at, s_body, s_seq, s_next, s_onE, s_onT, s_asg, s_par, s_for, s_raise, s_try, s_asgG, w_bind, w_pure, w_need, w_fail, w_calm, g_0, g_s, fEq_int, fNe_int, fEq_str, fNe_str, fInt_at, fInt0_at, fAdd_int, fCmp_at, fNeg_at, fLen_tup, fLen_lst, fIx_t0, fIx_l0, fIx_t1, fIx_l1, fIntC_at, fAbs_at, fGcd_at, fRepr_at, fBits_at, fIs_at, range_at, List.map_cons, List.map_nil, List.length_cons, List.length_nil, List.cons_append, List.nil_append, List.set_cons_zero, List.set_cons_succ, List.replicate, Nat.reduceAdd, Nat.reduceSub, List.append_nil, dName, true_and, and_true, Nat.zero_add, Nat.sub_self]
    refine ifF (by simp; omega) ?_
    refine ⟨l + 1, x, rfl, by omega, ?_⟩
    rw [rootIn_succ] at hk
    by_cases h0 : zB (l + 1) x = true
    · rw [if_pos h0] at hk
      refine ifT h0 ?_
      exact ⟨l + 1, 1, rfl, by omega, fits_small (by simp), hk⟩
    · rw [if_neg h0] at hk
      refine ifF h0 ?_
      refine ⟨l, x.2, rfl, by omega, ?_⟩
      by_cases h1 : zB l x.2 = true
      · rw [if_pos h1] at hk
        refine ifT h1 ?_
        exact ⟨l, r, x.1, rfl, ⟨by omega, by omega, hr, hx.1⟩, hk⟩
      · rw [if_neg h1] at hk
        refine ifF h1 ?_
        exact ⟨l, r, x.1, x.2, rfl, ⟨by omega, by omega, hr, hx.1, hx.2⟩, hk⟩


theorem ok_flat_root {j : Nat} (F : DefF K mg "flat_root" s_flat_root ["roots", "number"]) (h_lift_plain : DefG P w K mg base "lift_plain" ["low", "high", "number"] (3) w_lift_plain) (h_product_plain : DefG P w K mg base "product_plain" ["roots", "one", "other"] (8) (w_product_plain 4)) (h_plain_integer : DefG P w K mg base "plain_integer" ["level", "number"] (2) w_plain_integer) (h_root_in : DefG P w K mg base "root_in" ["roots", "number"] (2 * j + 9) (w_root_in j)) (m_len : mg "len" = none) : DefG P w K mg base "flat_root" ["roots", "number"] (2 * j + 9 + 1) (w_flat_root j) := by
  obtain ⟨f_lift_plain, d_lift_plain, G_lift_plain, n_lift_plain, q_lift_plain, b_lift_plain⟩ := h_lift_plain.ex
  obtain ⟨f_product_plain, d_product_plain, G_product_plain, n_product_plain, q_product_plain, b_product_plain⟩ := h_product_plain.ex
  obtain ⟨f_plain_integer, d_plain_integer, G_plain_integer, n_plain_integer, q_plain_integer, b_plain_integer⟩ := h_plain_integer.ex
  obtain ⟨f_root_in, d_root_in, G_root_in, n_root_in, q_root_in, b_root_in⟩ := h_root_in.ex
  refine def_ok (k := 2 * j + 9) F sc_flat_root (fun f cdv A outer s H E hg hr => (DSs.cons (DS.par3 (i := 2) (j := 3) (l := 4) (fun _ => rfl) (fun _ => sc_flat_root.nd) (fun _ => rfl) (fun _ => rfl) (fun _ => rfl) (by decide) (by decide) (by decide) (fun _ => rfl) (fun _ => rfl) (fun _ => rfl) (DA.cons (DE.sl (fun _ => rfl) (DE.var fun _ => pv 0) DO.no (DO.so (DE.op1 (fun _ _ p => pe_un un_neg p) sem_neg DE.int))) (DA.cons (DE.op2 (fun _ _ _ p q => pe_ix ix_seq p q (fun _ _ => rfl)) sem_ix (DE.var fun _ => pv 0) (DE.op1 (fun _ _ p => pe_un un_neg p) sem_neg DE.int)) (DA.cons (DE.opL (fun _ _ ha => pe_callB call_lenA (by rfl) m_len (by decide +kernel) ha) sem_len (DA.cons (DE.var fun _ => pv 0) DA.nil)) DA.nil))) (fun _ => by rfl))
    (DSs.cons (DS.set (k := 5) (fun _ => sc_flat_root.nd) (fun _ => rfl) (fun _ => (.inl rfl)) (DE.call (fun _ => G_root_in) (fun _ => hg) (fun _ => hr.mono (by omega)) (fun _ => takes_of rfl rfl rfl rfl) (fun _ => by rfl) (fun _ => n_root_in) (fun _ => q_root_in) (fun _ => b_root_in) (DA.cons (DE.var fun _ => pv 2) (DA.cons (DE.var fun _ => pv 1) DA.nil))))
    (DSs.cons (DS.ifS (DT.cmp (fun _ => op_notN) sem_notN (DE.var fun _ => pv 5) DE.non) (DSs.one (DS.ret (DE.tup (DA.cons (DE.call (fun _ => G_lift_plain) (fun _ => hg) (fun _ => hr.mono (by omega)) (fun _ => takes_of rfl rfl rfl rfl) (fun _ => by rfl) (fun _ => n_lift_plain) (fun _ => q_lift_plain) (fun _ => b_lift_plain) (DA.cons (DE.op2 (fun _ _ _ p q => pe_op op_sub p q) sem_int0 (DE.var fun _ => pv 4) DE.int) (DA.cons (DE.var fun _ => pv 4) (DA.cons (DE.op2 (fun _ _ _ p q => pe_ix ix_seq p q (fun _ _ => rfl)) sem_ix (DE.var fun _ => pv 5) DE.int) DA.nil)))) (DA.cons (DE.call (fun _ => G_lift_plain) (fun _ => hg) (fun _ => hr.mono (by omega)) (fun _ => takes_of rfl rfl rfl rfl) (fun _ => by rfl) (fun _ => n_lift_plain) (fun _ => q_lift_plain) (fun _ => b_lift_plain) (DA.cons (DE.op2 (fun _ _ _ p q => pe_op op_sub p q) sem_int0 (DE.var fun _ => pv 4) DE.int) (DA.cons (DE.var fun _ => pv 4) (DA.cons (DE.op2 (fun _ _ _ p q => pe_ix ix_seq p q (fun _ _ => rfl)) sem_ix (DE.var fun _ => pv 5) DE.int) DA.nil)))) DA.nil))))) DSs.nil)
    (DSs.cons (DS.set (k := 5) (fun _ => sc_flat_root.nd) (fun _ => rfl) (fun _ => (.inl rfl)) (DE.call (fun _ => G_root_in) (fun _ => hg) (fun _ => hr.mono (by omega)) (fun _ => takes_of rfl rfl rfl rfl) (fun _ => by rfl) (fun _ => n_root_in) (fun _ => q_root_in) (fun _ => b_root_in) (DA.cons (DE.var fun _ => pv 2) (DA.cons (DE.call (fun _ => G_product_plain) (fun _ => hg) (fun _ => hr.mono (by omega)) (fun _ => takes_of rfl rfl rfl rfl) (fun _ => by rfl) (fun _ => n_product_plain) (fun _ => q_product_plain) (fun _ => b_product_plain) (DA.cons (DE.var fun _ => pv 2) (DA.cons (DE.var fun _ => pv 1) (DA.cons (DE.var fun _ => pv 3) DA.nil)))) DA.nil))))
    (DSs.cons (DS.ifS (DT.cmp (fun _ => op_isN) sem_isN (DE.var fun _ => pv 5) DE.non) (DSs.one (DS.ret DE.non)) DSs.nil)
    (DSs.one (DS.ret (DE.tup (DA.cons (DE.tup (DA.cons (DE.call (fun _ => G_plain_integer) (fun _ => hg) (fun _ => hr.mono (by omega)) (fun _ => takes_of rfl rfl rfl rfl) (fun _ => by rfl) (fun _ => n_plain_integer) (fun _ => q_plain_integer) (fun _ => b_plain_integer) (DA.cons (DE.op2 (fun _ _ _ p q => pe_op op_sub p q) sem_int0 (DE.var fun _ => pv 4) DE.int) (DA.cons DE.int DA.nil))) (DA.cons (DE.op2 (fun _ _ _ p q => pe_ix ix_seq p q (fun _ _ => rfl)) sem_ix (DE.var fun _ => pv 5) DE.int) DA.nil))) (DA.cons (DE.call (fun _ => G_lift_plain) (fun _ => hg) (fun _ => hr.mono (by omega)) (fun _ => takes_of rfl rfl rfl rfl) (fun _ => by rfl) (fun _ => n_lift_plain) (fun _ => q_lift_plain) (fun _ => b_lift_plain) (DA.cons (DE.op2 (fun _ _ _ p q => pe_op op_sub p q) sem_int0 (DE.var fun _ => pv 4) DE.int) (DA.cons (DE.var fun _ => pv 4) (DA.cons (DE.call (fun _ => G_product_plain) (fun _ => hg) (fun _ => hr.mono (by omega)) (fun _ => takes_of rfl rfl rfl rfl) (fun _ => by rfl) (fun _ => n_product_plain) (fun _ => q_product_plain) (fun _ => b_product_plain) (DA.cons (DE.var fun _ => pv 2) (DA.cons (DE.op2 (fun _ _ _ p q => pe_ix ix_seq p q (fun _ _ => rfl)) sem_ix (DE.var fun _ => pv 5) DE.int) (DA.cons (DE.var fun _ => pv 3) DA.nil)))) DA.nil)))) DA.nil))))))))))) fun ds Kd Kx n hl h => ?_
  obtain ⟨l, r, a, rfl, ⟨hlj, hl2, hr, hx⟩, hk⟩ := h
  simp only [cut_last, fIx_last, dT_succ, lsub, rL_succ, rL_len, List.length_append, rD, g_tup2, g_tup3, fNotN_at, fIsN_at, List.getElem?_cons_succ, List.getElem?_cons_zero, s_par3, s_lc, fCut_at, fAdd_lst, fAdd_tup, fList_lst, fList_tup, fTuple_lst, fMul_lst, items_lst, items_tup, range2_at, zip_at, s_body, s_seq, s_next, s_onE, s_onT, s_asg, s_par, s_for, s_raise, s_try, s_asgG, w_bind, w_pure, w_need, w_fail, w_calm, g_0, g_s, fEq_int, fNe_int, fEq_str, fNe_str, fInt_at, fInt0_at, fAdd_int, fCmp_at, fNeg_at, fLen_tup, fLen_lst, fIx_t0, fIx_l0, fIx_t1, fIx_l1, fIntC_at, fAbs_at, fGcd_at, fRepr_at, fBits_at, fIs_at, range_at, List.map_cons, List.map_nil, List.length_cons, List.length_nil, List.cons_append, List.nil_append, List.set_cons_zero, List.set_cons_succ, List.replicate, Nat.reduceAdd, Nat.reduceSub, List.append_nil, dName, true_and, and_true, Nat.zero_add, Nat.sub_self]
  obtain ⟨c1, c2⟩ := cap_flat (l := l) (by omega) hr hx
  refine ⟨l, r.1, a, rfl, ⟨hlj, by omega, hr.1, c1⟩, ?_⟩
  unfold flatR at hk
  cases q : rootIn l r.1 a with
  | some g =>
    rw [q] at hk
    rw [optT_some]
    try simp only [cut_last, fIx_last, dT_succ, lsub, rL_succ, rL_len, List.length_append, rD, g_tup2, g_tup3, fNotN_at, fIsN_at, List.getElem?_cons_succ, List.getElem?_cons_zero, s_par3, s_lc, fCut_at, fAdd_lst, fAdd_tup, fList_lst, fList_tup, fTuple_lst, fMul_lst, items_lst, items_tup, range2_at, zip_at, s_body, s_seq, s_next, s_onE, s_onT, s_asg, s_par, s_for, s_raise, s_try, s_asgG, w_bind, w_pure, w_need, w_fail, w_calm, g_0, g_s, fEq_int, fNe_int, fEq_str, fNe_str, fInt_at, fInt0_at, fAdd_int, fCmp_at, fNeg_at, fLen_tup, fLen_lst, fIx_t0, fIx_l0, fIx_t1, fIx_l1, fIntC_at, fAbs_at, fGcd_at, fRepr_at, fBits_at, fIs_at, range_at, List.map_cons, List.map_nil, List.length_cons, List.length_nil, List.cons_append, List.nil_append, List.set_cons_zero, List.set_cons_succ, List.replicate, Nat.reduceAdd, Nat.reduceSub, List.append_nil, dName, true_and, and_true, Nat.zero_add, Nat.sub_self]
    refine ifT rfl ?_
    try simp only [cut_last, fIx_last, dT_succ, lsub, rL_succ, rL_len, List.length_append, rD, g_tup2, g_tup3, fNotN_at, fIsN_at, List.getElem?_cons_succ, List.getElem?_cons_zero, s_par3, s_lc, fCut_at, fAdd_lst, fAdd_tup, fList_lst, fList_tup, fTuple_lst, fMul_lst, items_lst, items_tup, range2_at, zip_at, s_body, s_seq, s_next, s_onE, s_onT, s_asg, s_par, s_for, s_raise, s_try, s_asgG, w_bind, w_pure, w_need, w_fail, w_calm, g_0, g_s, fEq_int, fNe_int, fEq_str, fNe_str, fInt_at, fInt0_at, fAdd_int, fCmp_at, fNeg_at, fLen_tup, fLen_lst, fIx_t0, fIx_l0, fIx_t1, fIx_l1, fIntC_at, fAbs_at, fGcd_at, fRepr_at, fBits_at, fIs_at, range_at, List.map_cons, List.map_nil, List.length_cons, List.length_nil, List.cons_append, List.nil_append, List.set_cons_zero, List.set_cons_succ, List.replicate, Nat.reduceAdd, Nat.reduceSub, List.append_nil, dName, true_and, and_true, Nat.zero_add, Nat.sub_self]
    refine ⟨l, g.1, rfl, by omega, ?_⟩
    refine ⟨l, g.2, rfl, by omega, ?_⟩
    exact ⟨fits_small (by simp), hk⟩
  | none =>
    rw [q] at hk
    rw [optT_none]
    try simp only [cut_last, fIx_last, dT_succ, lsub, rL_succ, rL_len, List.length_append, rD, g_tup2, g_tup3, fNotN_at, fIsN_at, List.getElem?_cons_succ, List.getElem?_cons_zero, s_par3, s_lc, fCut_at, fAdd_lst, fAdd_tup, fList_lst, fList_tup, fTuple_lst, fMul_lst, items_lst, items_tup, range2_at, zip_at, s_body, s_seq, s_next, s_onE, s_onT, s_asg, s_par, s_for, s_raise, s_try, s_asgG, w_bind, w_pure, w_need, w_fail, w_calm, g_0, g_s, fEq_int, fNe_int, fEq_str, fNe_str, fInt_at, fInt0_at, fAdd_int, fCmp_at, fNeg_at, fLen_tup, fLen_lst, fIx_t0, fIx_l0, fIx_t1, fIx_l1, fIntC_at, fAbs_at, fGcd_at, fRepr_at, fBits_at, fIs_at, range_at, List.map_cons, List.map_nil, List.length_cons, List.length_nil, List.cons_append, List.nil_append, List.set_cons_zero, List.set_cons_succ, List.replicate, Nat.reduceAdd, Nat.reduceSub, List.append_nil, dName, true_and, and_true, Nat.zero_add, Nat.sub_self]
    refine ifF (by simp [nonB]) ?_
    try simp only [cut_last, fIx_last, dT_succ, lsub, rL_succ, rL_len, List.length_append, rD, g_tup2, g_tup3, fNotN_at, fIsN_at, List.getElem?_cons_succ, List.getElem?_cons_zero, s_par3, s_lc, fCut_at, fAdd_lst, fAdd_tup, fList_lst, fList_tup, fTuple_lst, fMul_lst, items_lst, items_tup, range2_at, zip_at, s_body, s_seq, s_next, s_onE, s_onT, s_asg, s_par, s_for, s_raise, s_try, s_asgG, w_bind, w_pure, w_need, w_fail, w_calm, g_0, g_s, fEq_int, fNe_int, fEq_str, fNe_str, fInt_at, fInt0_at, fAdd_int, fCmp_at, fNeg_at, fLen_tup, fLen_lst, fIx_t0, fIx_l0, fIx_t1, fIx_l1, fIntC_at, fAbs_at, fGcd_at, fRepr_at, fBits_at, fIs_at, range_at, List.map_cons, List.map_nil, List.length_cons, List.length_nil, List.cons_append, List.nil_append, List.set_cons_zero, List.set_cons_succ, List.replicate, Nat.reduceAdd, Nat.reduceSub, List.append_nil, dName, true_and, and_true, Nat.zero_add, Nat.sub_self]
    refine ⟨l, r.1, a, r.2, _, 3, rfl, ⟨by omega, by omega, hr.1, hx, hr.2, cap_small (by omega)⟩, ?_⟩
    refine ⟨l, r.1, _, rfl, ⟨hlj, by omega, hr.1, c2⟩, ?_⟩
    cases q2 : rootIn l r.1 (mulT l r.1 a r.2) with
    | none =>
      rw [q2] at hk
      rw [optT_none]
      try simp only [cut_last, fIx_last, dT_succ, lsub, rL_succ, rL_len, List.length_append, rD, g_tup2, g_tup3, fNotN_at, fIsN_at, List.getElem?_cons_succ, List.getElem?_cons_zero, s_par3, s_lc, fCut_at, fAdd_lst, fAdd_tup, fList_lst, fList_tup, fTuple_lst, fMul_lst, items_lst, items_tup, range2_at, zip_at, s_body, s_seq, s_next, s_onE, s_onT, s_asg, s_par, s_for, s_raise, s_try, s_asgG, w_bind, w_pure, w_need, w_fail, w_calm, g_0, g_s, fEq_int, fNe_int, fEq_str, fNe_str, fInt_at, fInt0_at, fAdd_int, fCmp_at, fNeg_at, fLen_tup, fLen_lst, fIx_t0, fIx_l0, fIx_t1, fIx_l1, fIntC_at, fAbs_at, fGcd_at, fRepr_at, fBits_at, fIs_at, range_at, List.map_cons, List.map_nil, List.length_cons, List.length_nil, List.cons_append, List.nil_append, List.set_cons_zero, List.set_cons_succ, List.replicate, Nat.reduceAdd, Nat.reduceSub, List.append_nil, dName, true_and, and_true, Nat.zero_add, Nat.sub_self]
      first | exact ifT rfl hk | exact ifT (by simp) hk
    | some g =>
      rw [q2] at hk
      rw [optT_some]
      try simp only [cut_last, fIx_last, dT_succ, lsub, rL_succ, rL_len, List.length_append, rD, g_tup2, g_tup3, fNotN_at, fIsN_at, List.getElem?_cons_succ, List.getElem?_cons_zero, s_par3, s_lc, fCut_at, fAdd_lst, fAdd_tup, fList_lst, fList_tup, fTuple_lst, fMul_lst, items_lst, items_tup, range2_at, zip_at, s_body, s_seq, s_next, s_onE, s_onT, s_asg, s_par, s_for, s_raise, s_try, s_asgG, w_bind, w_pure, w_need, w_fail, w_calm, g_0, g_s, fEq_int, fNe_int, fEq_str, fNe_str, fInt_at, fInt0_at, fAdd_int, fCmp_at, fNeg_at, fLen_tup, fLen_lst, fIx_t0, fIx_l0, fIx_t1, fIx_l1, fIntC_at, fAbs_at, fGcd_at, fRepr_at, fBits_at, fIs_at, range_at, List.map_cons, List.map_nil, List.length_cons, List.length_nil, List.cons_append, List.nil_append, List.set_cons_zero, List.set_cons_succ, List.replicate, Nat.reduceAdd, Nat.reduceSub, List.append_nil, dName, true_and, and_true, Nat.zero_add, Nat.sub_self]
      refine ifF (by simp [nonB]) ?_
      refine ⟨l, 0, rfl, by omega, fits_small (by simp), ?_⟩
      obtain ⟨_, b2⟩ := flat_bd (by omega) hr hx q2
      refine ⟨l, r.1, g.2, r.2, _, 3, rfl, ⟨by omega, by omega, hr.1, b2, hr.2, by have : cc l ≤ 4 := cc_le (by omega); omega⟩, ?_⟩
      refine ⟨l, _, rfl, by omega, ?_⟩
      rw [pT_zero]
      exact ⟨fits_small (by simp), hk⟩


theorem ok_mixed_root {j : Nat} (F : DefF K mg "mixed_root" s_mixed_root ["roots", "number"]) (h_zero_plain : DefG P w K mg base "zero_plain" ["level", "number"] (2) w_zero_plain) (h_lift_plain : DefG P w K mg base "lift_plain" ["low", "high", "number"] (3) w_lift_plain) (h_times_int : DefG P w K mg base "times_int" ["level", "one", "number"] (2) w_times_int) (h_product_plain : DefG P w K mg base "product_plain" ["roots", "one", "other"] (8) (w_product_plain 4)) (h_root_in : DefG P w K mg base "root_in" ["roots", "number"] (2 * j + 9) (w_root_in j)) (h_sum_plain : DefG P w K mg base "sum_plain" ["level", "one", "other"] (2) w_sum_plain) (h_less_plain : DefG P w K mg base "less_plain" ["level", "one", "other"] (3) w_less_plain) (m_len : mg "len" = none) : DefG P w K mg base "mixed_root" ["roots", "number"] (2 * j + 9 + 1) (w_mixed_root j) := by
  obtain ⟨f_zero_plain, d_zero_plain, G_zero_plain, n_zero_plain, q_zero_plain, b_zero_plain⟩ := h_zero_plain.ex
  obtain ⟨f_lift_plain, d_lift_plain, G_lift_plain, n_lift_plain, q_lift_plain, b_lift_plain⟩ := h_lift_plain.ex
  obtain ⟨f_times_int, d_times_int, G_times_int, n_times_int, q_times_int, b_times_int⟩ := h_times_int.ex
  obtain ⟨f_product_plain, d_product_plain, G_product_plain, n_product_plain, q_product_plain, b_product_plain⟩ := h_product_plain.ex
  obtain ⟨f_root_in, d_root_in, G_root_in, n_root_in, q_root_in, b_root_in⟩ := h_root_in.ex
  obtain ⟨f_sum_plain, d_sum_plain, G_sum_plain, n_sum_plain, q_sum_plain, b_sum_plain⟩ := h_sum_plain.ex
  obtain ⟨f_less_plain, d_less_plain, G_less_plain, n_less_plain, q_less_plain, b_less_plain⟩ := h_less_plain.ex
  refine def_ok (k := 2 * j + 9) F sc_mixed_root (fun f cdv A outer s H E hg hr => (DSs.cons (DS.par3 (i := 2) (j := 3) (l := 4) (fun _ => rfl) (fun _ => sc_mixed_root.nd) (fun _ => rfl) (fun _ => rfl) (fun _ => rfl) (by decide) (by decide) (by decide) (fun _ => rfl) (fun _ => rfl) (fun _ => rfl) (DA.cons (DE.sl (fun _ => rfl) (DE.var fun _ => pv 0) DO.no (DO.so (DE.op1 (fun _ _ p => pe_un un_neg p) sem_neg DE.int))) (DA.cons (DE.op2 (fun _ _ _ p q => pe_ix ix_seq p q (fun _ _ => rfl)) sem_ix (DE.var fun _ => pv 0) (DE.op1 (fun _ _ p => pe_un un_neg p) sem_neg DE.int)) (DA.cons (DE.opL (fun _ _ ha => pe_callB call_lenA (by rfl) m_len (by decide +kernel) ha) sem_len (DA.cons (DE.var fun _ => pv 0) DA.nil)) DA.nil))) (fun _ => by rfl))
    (DSs.cons (DS.asg (DE.var fun _ => pv 1) (DG.tup (m := 2) (fun _ => rfl) (fun _ => rfl) (DGs.cons (DG.name (k := 5) (fun _ => pg_name sc_mixed_root.nd rfl (.inl rfl))) (DGs.cons (DG.name (k := 6) (fun _ => pg_name sc_mixed_root.nd rfl (.inl rfl))) DGs.nil))))
    (DSs.cons (DS.set (k := 7) (fun _ => sc_mixed_root.nd) (fun _ => rfl) (fun _ => (.inl rfl)) (DE.call (fun _ => G_product_plain) (fun _ => hg) (fun _ => hr.mono (by omega)) (fun _ => takes_of rfl rfl rfl rfl) (fun _ => by rfl) (fun _ => n_product_plain) (fun _ => q_product_plain) (fun _ => b_product_plain) (DA.cons (DE.var fun _ => pv 2) (DA.cons (DE.call (fun _ => G_product_plain) (fun _ => hg) (fun _ => hr.mono (by omega)) (fun _ => takes_of rfl rfl rfl rfl) (fun _ => by rfl) (fun _ => n_product_plain) (fun _ => q_product_plain) (fun _ => b_product_plain) (DA.cons (DE.var fun _ => pv 2) (DA.cons (DE.var fun _ => pv 6) (DA.cons (DE.var fun _ => pv 6) DA.nil)))) (DA.cons (DE.var fun _ => pv 3) DA.nil)))))
    (DSs.cons (DS.set (k := 8) (fun _ => sc_mixed_root.nd) (fun _ => rfl) (fun _ => (.inl rfl)) (DE.call (fun _ => G_root_in) (fun _ => hg) (fun _ => hr.mono (by omega)) (fun _ => takes_of rfl rfl rfl rfl) (fun _ => by rfl) (fun _ => n_root_in) (fun _ => q_root_in) (fun _ => b_root_in) (DA.cons (DE.var fun _ => pv 2) (DA.cons (DE.call (fun _ => G_less_plain) (fun _ => hg) (fun _ => hr.mono (by omega)) (fun _ => takes_of rfl rfl rfl rfl) (fun _ => by rfl) (fun _ => n_less_plain) (fun _ => q_less_plain) (fun _ => b_less_plain) (DA.cons (DE.op2 (fun _ _ _ p q => pe_op op_sub p q) sem_int0 (DE.var fun _ => pv 4) DE.int) (DA.cons (DE.call (fun _ => G_product_plain) (fun _ => hg) (fun _ => hr.mono (by omega)) (fun _ => takes_of rfl rfl rfl rfl) (fun _ => by rfl) (fun _ => n_product_plain) (fun _ => q_product_plain) (fun _ => b_product_plain) (DA.cons (DE.var fun _ => pv 2) (DA.cons (DE.var fun _ => pv 5) (DA.cons (DE.var fun _ => pv 5) DA.nil)))) (DA.cons (DE.var fun _ => pv 7) DA.nil)))) DA.nil))))
    (DSs.cons (DS.ifS (DT.cmp (fun _ => op_isN) sem_isN (DE.var fun _ => pv 8) DE.non) (DSs.one (DS.ret DE.non)) DSs.nil)
    (DSs.cons (DS.for (fun _ => passes_of rfl) (fun _ => rfl) (DI.seq (fun _ => rfl) (DE.cst (.tup [.int 1, .int (-1)]) (by rfl))) (DG.name (k := 9) (fun _ => pg_name sc_mixed_root.nd rfl (.inl rfl))) (DSs.cons (DS.set (k := 10) (fun _ => sc_mixed_root.nd) (fun _ => rfl) (fun _ => (.inl rfl)) (DE.call (fun _ => G_sum_plain) (fun _ => hg) (fun _ => hr.mono (by omega)) (fun _ => takes_of rfl rfl rfl rfl) (fun _ => by rfl) (fun _ => n_sum_plain) (fun _ => q_sum_plain) (fun _ => b_sum_plain) (DA.cons (DE.op2 (fun _ _ _ p q => pe_op op_sub p q) sem_int0 (DE.var fun _ => pv 4) DE.int) (DA.cons (DE.call (fun _ => G_product_plain) (fun _ => hg) (fun _ => hr.mono (by omega)) (fun _ => takes_of rfl rfl rfl rfl) (fun _ => by rfl) (fun _ => n_product_plain) (fun _ => q_product_plain) (fun _ => b_product_plain) (DA.cons (DE.var fun _ => pv 2) (DA.cons (DE.var fun _ => pv 5) (DA.cons (DE.op2 (fun _ _ _ p q => pe_ix ix_seq p q (fun _ _ => rfl)) sem_ix (DE.var fun _ => pv 8) DE.int) DA.nil)))) (DA.cons (DE.call (fun _ => G_times_int) (fun _ => hg) (fun _ => hr.mono (by omega)) (fun _ => takes_of rfl rfl rfl rfl) (fun _ => by rfl) (fun _ => n_times_int) (fun _ => q_times_int) (fun _ => b_times_int) (DA.cons (DE.op2 (fun _ _ _ p q => pe_op op_sub p q) sem_int0 (DE.var fun _ => pv 4) DE.int) (DA.cons (DE.op2 (fun _ _ _ p q => pe_ix ix_seq p q (fun _ _ => rfl)) sem_ix (DE.var fun _ => pv 8) DE.int) (DA.cons (DE.var fun _ => pv 9) DA.nil)))) DA.nil)))))
    (DSs.cons (DS.set (k := 11) (fun _ => sc_mixed_root.nd) (fun _ => rfl) (fun _ => (.inl rfl)) (DE.call (fun _ => G_times_int) (fun _ => hg) (fun _ => hr.mono (by omega)) (fun _ => takes_of rfl rfl rfl rfl) (fun _ => by rfl) (fun _ => n_times_int) (fun _ => q_times_int) (fun _ => b_times_int) (DA.cons (DE.op2 (fun _ _ _ p q => pe_op op_sub p q) sem_int0 (DE.var fun _ => pv 4) DE.int) (DA.cons (DE.op2 (fun _ _ _ p q => pe_ix ix_seq p q (fun _ _ => rfl)) sem_ix (DE.var fun _ => pv 8) DE.int) (DA.cons DE.int DA.nil)))))
    (DSs.cons (DS.set (k := 12) (fun _ => sc_mixed_root.nd) (fun _ => rfl) (fun _ => (.inl rfl)) (DE.call (fun _ => G_root_in) (fun _ => hg) (fun _ => hr.mono (by omega)) (fun _ => takes_of rfl rfl rfl rfl) (fun _ => by rfl) (fun _ => n_root_in) (fun _ => q_root_in) (fun _ => b_root_in) (DA.cons (DE.var fun _ => pv 2) (DA.cons (DE.call (fun _ => G_product_plain) (fun _ => hg) (fun _ => hr.mono (by omega)) (fun _ => takes_of rfl rfl rfl rfl) (fun _ => by rfl) (fun _ => n_product_plain) (fun _ => q_product_plain) (fun _ => b_product_plain) (DA.cons (DE.var fun _ => pv 2) (DA.cons (DE.var fun _ => pv 10) (DA.cons (DE.var fun _ => pv 11) DA.nil)))) DA.nil))))
    (DSs.one (DS.ifS (DW.pt (DW.and (DT.cmp (fun _ => op_notN) sem_notN (DE.var fun _ => pv 12) DE.non) (DW.and1 (DT.not (DT.val (DE.call (fun _ => G_zero_plain) (fun _ => hg) (fun _ => hr.mono (by omega)) (fun _ => takes_of rfl rfl rfl rfl) (fun _ => by rfl) (fun _ => n_zero_plain) (fun _ => q_zero_plain) (fun _ => b_zero_plain) (DA.cons (DE.op2 (fun _ _ _ p q => pe_op op_sub p q) sem_int0 (DE.var fun _ => pv 4) DE.int) (DA.cons (DE.op2 (fun _ _ _ p q => pe_ix ix_seq p q (fun _ _ => rfl)) sem_ix (DE.var fun _ => pv 12) DE.int) DA.nil)))))))) (DSs.cons (DS.par (i := 13) (j := 14) (fun _ => rfl) (fun _ => sc_mixed_root.nd) (fun _ => rfl) (fun _ => rfl) (by decide) (fun _ => rfl) (fun _ => rfl) (DA.cons (DE.op2 (fun _ _ _ p q => pe_ix ix_seq p q (fun _ _ => rfl)) sem_ix (DE.var fun _ => pv 12) DE.int) (DA.cons (DE.call (fun _ => G_product_plain) (fun _ => hg) (fun _ => hr.mono (by omega)) (fun _ => takes_of rfl rfl rfl rfl) (fun _ => by rfl) (fun _ => n_product_plain) (fun _ => q_product_plain) (fun _ => b_product_plain) (DA.cons (DE.var fun _ => pv 2) (DA.cons (DE.op2 (fun _ _ _ p q => pe_ix ix_seq p q (fun _ _ => rfl)) sem_ix (DE.var fun _ => pv 12) DE.int) (DA.cons (DE.var fun _ => pv 11) DA.nil)))) DA.nil)) (fun _ => by rfl))
    (DSs.cons (DS.set (k := 15) (fun _ => sc_mixed_root.nd) (fun _ => rfl) (fun _ => (.inl rfl)) (DE.call (fun _ => G_times_int) (fun _ => hg) (fun _ => hr.mono (by omega)) (fun _ => takes_of rfl rfl rfl rfl) (fun _ => by rfl) (fun _ => n_times_int) (fun _ => q_times_int) (fun _ => b_times_int) (DA.cons (DE.op2 (fun _ _ _ p q => pe_op op_sub p q) sem_int0 (DE.var fun _ => pv 4) DE.int) (DA.cons (DE.call (fun _ => G_product_plain) (fun _ => hg) (fun _ => hr.mono (by omega)) (fun _ => takes_of rfl rfl rfl rfl) (fun _ => by rfl) (fun _ => n_product_plain) (fun _ => q_product_plain) (fun _ => b_product_plain) (DA.cons (DE.var fun _ => pv 2) (DA.cons (DE.var fun _ => pv 13) (DA.cons (DE.var fun _ => pv 13) DA.nil)))) (DA.cons DE.int DA.nil)))))
    (DSs.cons (DS.set (k := 16) (fun _ => sc_mixed_root.nd) (fun _ => rfl) (fun _ => (.inl rfl)) (DE.call (fun _ => G_product_plain) (fun _ => hg) (fun _ => hr.mono (by omega)) (fun _ => takes_of rfl rfl rfl rfl) (fun _ => by rfl) (fun _ => n_product_plain) (fun _ => q_product_plain) (fun _ => b_product_plain) (DA.cons (DE.var fun _ => pv 2) (DA.cons (DE.call (fun _ => G_product_plain) (fun _ => hg) (fun _ => hr.mono (by omega)) (fun _ => takes_of rfl rfl rfl rfl) (fun _ => by rfl) (fun _ => n_product_plain) (fun _ => q_product_plain) (fun _ => b_product_plain) (DA.cons (DE.var fun _ => pv 2) (DA.cons (DE.var fun _ => pv 14) (DA.cons (DE.var fun _ => pv 14) DA.nil)))) (DA.cons (DE.var fun _ => pv 6) DA.nil)))))
    (DSs.cons (DS.set (k := 17) (fun _ => sc_mixed_root.nd) (fun _ => rfl) (fun _ => (.inl rfl)) (DE.call (fun _ => G_times_int) (fun _ => hg) (fun _ => hr.mono (by omega)) (fun _ => takes_of rfl rfl rfl rfl) (fun _ => by rfl) (fun _ => n_times_int) (fun _ => q_times_int) (fun _ => b_times_int) (DA.cons (DE.op2 (fun _ _ _ p q => pe_op op_sub p q) sem_int0 (DE.var fun _ => pv 4) DE.int) (DA.cons (DE.call (fun _ => G_product_plain) (fun _ => hg) (fun _ => hr.mono (by omega)) (fun _ => takes_of rfl rfl rfl rfl) (fun _ => by rfl) (fun _ => n_product_plain) (fun _ => q_product_plain) (fun _ => b_product_plain) (DA.cons (DE.var fun _ => pv 2) (DA.cons (DE.var fun _ => pv 13) (DA.cons (DE.var fun _ => pv 14) DA.nil)))) (DA.cons DE.int DA.nil)))))
    (DSs.one (DS.ret (DE.tup (DA.cons (DE.tup (DA.cons (DE.var fun _ => pv 15) (DA.cons (DE.var fun _ => pv 16) DA.nil))) (DA.cons (DE.call (fun _ => G_lift_plain) (fun _ => hg) (fun _ => hr.mono (by omega)) (fun _ => takes_of rfl rfl rfl rfl) (fun _ => by rfl) (fun _ => n_lift_plain) (fun _ => q_lift_plain) (fun _ => b_lift_plain) (DA.cons (DE.op2 (fun _ _ _ p q => pe_op op_sub p q) sem_int0 (DE.var fun _ => pv 4) DE.int) (DA.cons (DE.var fun _ => pv 4) (DA.cons (DE.var fun _ => pv 17) DA.nil)))) DA.nil))))))))) DSs.nil))))))
    (DSs.one (DS.ret DE.non))))))))) fun ds Kd Kx n hl h => ?_
  obtain ⟨l, r, a, b, rfl, ⟨hlj, hl2, hr, ha, hb⟩, hk⟩ := h
  simp only [cut_last, fIx_last, dT_succ, lsub, rL_succ, rL_len, List.length_append, rD, g_tup2, g_tup3, fNotN_at, fIsN_at, List.getElem?_cons_succ, List.getElem?_cons_zero, s_par3, s_lc, fCut_at, fAdd_lst, fAdd_tup, fList_lst, fList_tup, fTuple_lst, fMul_lst, items_lst, items_tup, range2_at, zip_at, s_body, s_seq, s_next, s_onE, s_onT, s_asg, s_par, s_for, s_raise, s_try, s_asgG, w_bind, w_pure, w_need, w_fail, w_calm, g_0, g_s, fEq_int, fNe_int, fEq_str, fNe_str, fInt_at, fInt0_at, fAdd_int, fCmp_at, fNeg_at, fLen_tup, fLen_lst, fIx_t0, fIx_l0, fIx_t1, fIx_l1, fIntC_at, fAbs_at, fGcd_at, fRepr_at, fBits_at, fIs_at, range_at, List.map_cons, List.map_nil, List.length_cons, List.length_nil, List.cons_append, List.nil_append, List.set_cons_zero, List.set_cons_succ, List.replicate, Nat.reduceAdd, Nat.reduceSub, List.append_nil, dName, true_and, and_true, Nat.zero_add, Nat.sub_self]
  have hc4 : cc l ≤ 4 := cc_le (by omega)
  have hc20 : capP (l + 1) ≤ 2400 := capP_le
  have bb := Bd.mul hr.1 hb hb
  have bbd := Bd.mul hr.1 bb hr.2
  have baa := Bd.mul hr.1 ha ha
  refine ⟨l, r.1, b, b, _, _, rfl, ⟨by omega, by omega, hr.1, hb, hb, by omega⟩, ?_⟩
  refine ⟨l, r.1, _, r.2, _, 3, rfl, ⟨by omega, by omega, hr.1, bb, hr.2, by omega⟩, ?_⟩
  refine ⟨l, r.1, a, a, _, _, rfl, ⟨by omega, by omega, hr.1, ha, ha, by omega⟩, ?_⟩
  refine ⟨l, _, _, _, rfl, ⟨by omega, bbd, by omega⟩, ?_⟩
  obtain ⟨c1, c2⟩ := mix_bd (l := l) (by omega) hr ha hb
  refine ⟨l, r.1, _, rfl, ⟨hlj, by omega, hr.1, c1⟩, ?_⟩
  unfold mixR at hk
  cases q : rootIn l r.1 (subT l (mulT l r.1 a a) (mulT l r.1 (mulT l r.1 b b) r.2)) with
  | none =>
    rw [q] at hk
    rw [optT_none]
    try simp only [cut_last, fIx_last, dT_succ, lsub, rL_succ, rL_len, List.length_append, rD, g_tup2, g_tup3, fNotN_at, fIsN_at, List.getElem?_cons_succ, List.getElem?_cons_zero, s_par3, s_lc, fCut_at, fAdd_lst, fAdd_tup, fList_lst, fList_tup, fTuple_lst, fMul_lst, items_lst, items_tup, range2_at, zip_at, s_body, s_seq, s_next, s_onE, s_onT, s_asg, s_par, s_for, s_raise, s_try, s_asgG, w_bind, w_pure, w_need, w_fail, w_calm, g_0, g_s, fEq_int, fNe_int, fEq_str, fNe_str, fInt_at, fInt0_at, fAdd_int, fCmp_at, fNeg_at, fLen_tup, fLen_lst, fIx_t0, fIx_l0, fIx_t1, fIx_l1, fIntC_at, fAbs_at, fGcd_at, fRepr_at, fBits_at, fIs_at, range_at, List.map_cons, List.map_nil, List.length_cons, List.length_nil, List.cons_append, List.nil_append, List.set_cons_zero, List.set_cons_succ, List.replicate, Nat.reduceAdd, Nat.reduceSub, List.append_nil, dName, true_and, and_true, Nat.zero_add, Nat.sub_self]
    first | exact ifT rfl hk | exact ifT (by simp) hk
  | some m =>
    rw [q] at hk
    rw [optT_some]
    try simp only [cut_last, fIx_last, dT_succ, lsub, rL_succ, rL_len, List.length_append, rD, g_tup2, g_tup3, fNotN_at, fIsN_at, List.getElem?_cons_succ, List.getElem?_cons_zero, s_par3, s_lc, fCut_at, fAdd_lst, fAdd_tup, fList_lst, fList_tup, fTuple_lst, fMul_lst, items_lst, items_tup, range2_at, zip_at, s_body, s_seq, s_next, s_onE, s_onT, s_asg, s_par, s_for, s_raise, s_try, s_asgG, w_bind, w_pure, w_need, w_fail, w_calm, g_0, g_s, fEq_int, fNe_int, fEq_str, fNe_str, fInt_at, fInt0_at, fAdd_int, fCmp_at, fNeg_at, fLen_tup, fLen_lst, fIx_t0, fIx_l0, fIx_t1, fIx_l1, fIntC_at, fAbs_at, fGcd_at, fRepr_at, fBits_at, fIs_at, range_at, List.map_cons, List.map_nil, List.length_cons, List.length_nil, List.cons_append, List.nil_append, List.set_cons_zero, List.set_cons_succ, List.replicate, Nat.reduceAdd, Nat.reduceSub, List.append_nil, dName, true_and, and_true, Nat.zero_add, Nat.sub_self]
    refine ifF (by simp [nonB]) ?_
    try simp only [cut_last, fIx_last, dT_succ, lsub, rL_succ, rL_len, List.length_append, rD, g_tup2, g_tup3, fNotN_at, fIsN_at, List.getElem?_cons_succ, List.getElem?_cons_zero, s_par3, s_lc, fCut_at, fAdd_lst, fAdd_tup, fList_lst, fList_tup, fTuple_lst, fMul_lst, items_lst, items_tup, range2_at, zip_at, s_body, s_seq, s_next, s_onE, s_onT, s_asg, s_par, s_for, s_raise, s_try, s_asgG, w_bind, w_pure, w_need, w_fail, w_calm, g_0, g_s, fEq_int, fNe_int, fEq_str, fNe_str, fInt_at, fInt0_at, fAdd_int, fCmp_at, fNeg_at, fLen_tup, fLen_lst, fIx_t0, fIx_l0, fIx_t1, fIx_l1, fIntC_at, fAbs_at, fGcd_at, fRepr_at, fBits_at, fIs_at, range_at, List.map_cons, List.map_nil, List.length_cons, List.length_nil, List.cons_append, List.nil_append, List.set_cons_zero, List.set_cons_succ, List.replicate, Nat.reduceAdd, Nat.reduceSub, List.append_nil, dName, true_and, and_true, Nat.zero_add, Nat.sub_self]
    obtain ⟨bm1, bm2, c3⟩ := c2 m q
    obtain ⟨g1, g2⟩ := gB_le (l := l)
    have bot := Bd.sg2 (k := 2) bm2 (by decide)
    have top : ∀ s : Int, s.natAbs ≤ 1 → Bd l (capP (l + 1) + mB l + cc l + 1) (addT l (mulT l r.1 a m.2) (sg l s m.1)) := fun s hs => Bd.add (Bd.mul hr.1 ha bm2) ((Bd.sg1 bm1 hs).mono (by omega))
    unfold forD
    try simp only [cut_last, fIx_last, dT_succ, lsub, rL_succ, rL_len, List.length_append, rD, g_tup2, g_tup3, fNotN_at, fIsN_at, List.getElem?_cons_succ, List.getElem?_cons_zero, s_par3, s_lc, fCut_at, fAdd_lst, fAdd_tup, fList_lst, fList_tup, fTuple_lst, fMul_lst, items_lst, items_tup, range2_at, zip_at, s_body, s_seq, s_next, s_onE, s_onT, s_asg, s_par, s_for, s_raise, s_try, s_asgG, w_bind, w_pure, w_need, w_fail, w_calm, g_0, g_s, fEq_int, fNe_int, fEq_str, fNe_str, fInt_at, fInt0_at, fAdd_int, fCmp_at, fNeg_at, fLen_tup, fLen_lst, fIx_t0, fIx_l0, fIx_t1, fIx_l1, fIntC_at, fAbs_at, fGcd_at, fRepr_at, fBits_at, fIs_at, range_at, List.map_cons, List.map_nil, List.length_cons, List.length_nil, List.cons_append, List.nil_append, List.set_cons_zero, List.set_cons_succ, List.replicate, Nat.reduceAdd, Nat.reduceSub, List.append_nil, dName, true_and, and_true, Nat.zero_add, Nat.sub_self]
    obtain ⟨c4a, c5a⟩ := c3 (1) (by decide)
    refine ⟨l, r.1, a, m.2, _, _, rfl, ⟨by omega, by omega, hr.1, ha, bm2, by omega⟩, ?_⟩
    refine ⟨l, m.1, 1, _, rfl, ⟨by omega, bm1, by omega, by decide⟩, ?_⟩
    refine ⟨l, _, _, rfl, by omega, ?_⟩
    refine ⟨l, m.2, 2, _, rfl, ⟨by omega, bm2, by omega, by decide⟩, ?_⟩
    refine ⟨l, r.1, _, _, _, _, rfl, ⟨by omega, by omega, hr.1, top (1) (by decide), bot, by omega⟩, ?_⟩
    refine ⟨l, r.1, _, rfl, ⟨hlj, by omega, hr.1, c4a⟩, ?_⟩
    cases ea : rootIn l r.1 (mulT l r.1 (addT l (mulT l r.1 a m.2) (sg l (1) m.1)) (sg l 2 m.2)) with
    | none =>
      have ena : signR rootIn l r a b m (1) = none := by
        unfold signR
        rw [ea]
      rw [optT_none]
      try simp only [cut_last, fIx_last, dT_succ, lsub, rL_succ, rL_len, List.length_append, rD, g_tup2, g_tup3, fNotN_at, fIsN_at, List.getElem?_cons_succ, List.getElem?_cons_zero, s_par3, s_lc, fCut_at, fAdd_lst, fAdd_tup, fList_lst, fList_tup, fTuple_lst, fMul_lst, items_lst, items_tup, range2_at, zip_at, s_body, s_seq, s_next, s_onE, s_onT, s_asg, s_par, s_for, s_raise, s_try, s_asgG, w_bind, w_pure, w_need, w_fail, w_calm, g_0, g_s, fEq_int, fNe_int, fEq_str, fNe_str, fInt_at, fInt0_at, fAdd_int, fCmp_at, fNeg_at, fLen_tup, fLen_lst, fIx_t0, fIx_l0, fIx_t1, fIx_l1, fIntC_at, fAbs_at, fGcd_at, fRepr_at, fBits_at, fIs_at, range_at, List.map_cons, List.map_nil, List.length_cons, List.length_nil, List.cons_append, List.nil_append, List.set_cons_zero, List.set_cons_succ, List.replicate, Nat.reduceAdd, Nat.reduceSub, List.append_nil, dName, true_and, and_true, Nat.zero_add, Nat.sub_self]
      rw [w_ite]
      refine ifF (by simp [nonB]) ?_
      try simp only [cut_last, fIx_last, dT_succ, lsub, rL_succ, rL_len, List.length_append, rD, g_tup2, g_tup3, fNotN_at, fIsN_at, List.getElem?_cons_succ, List.getElem?_cons_zero, s_par3, s_lc, fCut_at, fAdd_lst, fAdd_tup, fList_lst, fList_tup, fTuple_lst, fMul_lst, items_lst, items_tup, range2_at, zip_at, s_body, s_seq, s_next, s_onE, s_onT, s_asg, s_par, s_for, s_raise, s_try, s_asgG, w_bind, w_pure, w_need, w_fail, w_calm, g_0, g_s, fEq_int, fNe_int, fEq_str, fNe_str, fInt_at, fInt0_at, fAdd_int, fCmp_at, fNeg_at, fLen_tup, fLen_lst, fIx_t0, fIx_l0, fIx_t1, fIx_l1, fIntC_at, fAbs_at, fGcd_at, fRepr_at, fBits_at, fIs_at, range_at, List.map_cons, List.map_nil, List.length_cons, List.length_nil, List.cons_append, List.nil_append, List.set_cons_zero, List.set_cons_succ, List.replicate, Nat.reduceAdd, Nat.reduceSub, List.append_nil, dName, true_and, and_true, Nat.zero_add, Nat.sub_self]
      unfold forD
      try simp only [cut_last, fIx_last, dT_succ, lsub, rL_succ, rL_len, List.length_append, rD, g_tup2, g_tup3, fNotN_at, fIsN_at, List.getElem?_cons_succ, List.getElem?_cons_zero, s_par3, s_lc, fCut_at, fAdd_lst, fAdd_tup, fList_lst, fList_tup, fTuple_lst, fMul_lst, items_lst, items_tup, range2_at, zip_at, s_body, s_seq, s_next, s_onE, s_onT, s_asg, s_par, s_for, s_raise, s_try, s_asgG, w_bind, w_pure, w_need, w_fail, w_calm, g_0, g_s, fEq_int, fNe_int, fEq_str, fNe_str, fInt_at, fInt0_at, fAdd_int, fCmp_at, fNeg_at, fLen_tup, fLen_lst, fIx_t0, fIx_l0, fIx_t1, fIx_l1, fIntC_at, fAbs_at, fGcd_at, fRepr_at, fBits_at, fIs_at, range_at, List.map_cons, List.map_nil, List.length_cons, List.length_nil, List.cons_append, List.nil_append, List.set_cons_zero, List.set_cons_succ, List.replicate, Nat.reduceAdd, Nat.reduceSub, List.append_nil, dName, true_and, and_true, Nat.zero_add, Nat.sub_self]
      obtain ⟨c4b, c5b⟩ := c3 (-1) (by decide)
      refine ⟨l, r.1, a, m.2, _, _, rfl, ⟨by omega, by omega, hr.1, ha, bm2, by omega⟩, ?_⟩
      refine ⟨l, m.1, -1, _, rfl, ⟨by omega, bm1, by omega, by decide⟩, ?_⟩
      refine ⟨l, _, _, rfl, by omega, ?_⟩
      refine ⟨l, m.2, 2, _, rfl, ⟨by omega, bm2, by omega, by decide⟩, ?_⟩
      refine ⟨l, r.1, _, _, _, _, rfl, ⟨by omega, by omega, hr.1, top (-1) (by decide), bot, by omega⟩, ?_⟩
      refine ⟨l, r.1, _, rfl, ⟨hlj, by omega, hr.1, c4b⟩, ?_⟩
      cases eb : rootIn l r.1 (mulT l r.1 (addT l (mulT l r.1 a m.2) (sg l (-1) m.1)) (sg l 2 m.2)) with
      | none =>
        have enb : signR rootIn l r a b m (-1) = none := by
          unfold signR
          rw [eb]
        rw [optT_none]
        try simp only [cut_last, fIx_last, dT_succ, lsub, rL_succ, rL_len, List.length_append, rD, g_tup2, g_tup3, fNotN_at, fIsN_at, List.getElem?_cons_succ, List.getElem?_cons_zero, s_par3, s_lc, fCut_at, fAdd_lst, fAdd_tup, fList_lst, fList_tup, fTuple_lst, fMul_lst, items_lst, items_tup, range2_at, zip_at, s_body, s_seq, s_next, s_onE, s_onT, s_asg, s_par, s_for, s_raise, s_try, s_asgG, w_bind, w_pure, w_need, w_fail, w_calm, g_0, g_s, fEq_int, fNe_int, fEq_str, fNe_str, fInt_at, fInt0_at, fAdd_int, fCmp_at, fNeg_at, fLen_tup, fLen_lst, fIx_t0, fIx_l0, fIx_t1, fIx_l1, fIntC_at, fAbs_at, fGcd_at, fRepr_at, fBits_at, fIs_at, range_at, List.map_cons, List.map_nil, List.length_cons, List.length_nil, List.cons_append, List.nil_append, List.set_cons_zero, List.set_cons_succ, List.replicate, Nat.reduceAdd, Nat.reduceSub, List.append_nil, dName, true_and, and_true, Nat.zero_add, Nat.sub_self]
        rw [w_ite]
        refine ifF (by simp [nonB]) ?_
        have hk : Kd (optT (l + 1) (match signR rootIn l r a b m 1 with | some g => some g | none => signR rootIn l r a b m (-1))) n := hk; rw [ena, enb] at hk
        exact hk
      | some g =>
        obtain ⟨bg1, bg2⟩ := c5b g eb
        have bt := Bd.mul hr.1 bg2 bot
        rw [optT_some]
        try simp only [cut_last, fIx_last, dT_succ, lsub, rL_succ, rL_len, List.length_append, rD, g_tup2, g_tup3, fNotN_at, fIsN_at, List.getElem?_cons_succ, List.getElem?_cons_zero, s_par3, s_lc, fCut_at, fAdd_lst, fAdd_tup, fList_lst, fList_tup, fTuple_lst, fMul_lst, items_lst, items_tup, range2_at, zip_at, s_body, s_seq, s_next, s_onE, s_onT, s_asg, s_par, s_for, s_raise, s_try, s_asgG, w_bind, w_pure, w_need, w_fail, w_calm, g_0, g_s, fEq_int, fNe_int, fEq_str, fNe_str, fInt_at, fInt0_at, fAdd_int, fCmp_at, fNeg_at, fLen_tup, fLen_lst, fIx_t0, fIx_l0, fIx_t1, fIx_l1, fIntC_at, fAbs_at, fGcd_at, fRepr_at, fBits_at, fIs_at, range_at, List.map_cons, List.map_nil, List.length_cons, List.length_nil, List.cons_append, List.nil_append, List.set_cons_zero, List.set_cons_succ, List.replicate, Nat.reduceAdd, Nat.reduceSub, List.append_nil, dName, true_and, and_true, Nat.zero_add, Nat.sub_self]
        rw [w_ite]
        refine ifT (by simp [nonB]) ?_
        try simp only [cut_last, fIx_last, dT_succ, lsub, rL_succ, rL_len, List.length_append, rD, g_tup2, g_tup3, fNotN_at, fIsN_at, List.getElem?_cons_succ, List.getElem?_cons_zero, s_par3, s_lc, fCut_at, fAdd_lst, fAdd_tup, fList_lst, fList_tup, fTuple_lst, fMul_lst, items_lst, items_tup, range2_at, zip_at, s_body, s_seq, s_next, s_onE, s_onT, s_asg, s_par, s_for, s_raise, s_try, s_asgG, w_bind, w_pure, w_need, w_fail, w_calm, g_0, g_s, fEq_int, fNe_int, fEq_str, fNe_str, fInt_at, fInt0_at, fAdd_int, fCmp_at, fNeg_at, fLen_tup, fLen_lst, fIx_t0, fIx_l0, fIx_t1, fIx_l1, fIntC_at, fAbs_at, fGcd_at, fRepr_at, fBits_at, fIs_at, range_at, List.map_cons, List.map_nil, List.length_cons, List.length_nil, List.cons_append, List.nil_append, List.set_cons_zero, List.set_cons_succ, List.replicate, Nat.reduceAdd, Nat.reduceSub, List.append_nil, dName, true_and, and_true, Nat.zero_add, Nat.sub_self]
        refine ⟨l, g.1, rfl, by omega, ?_⟩
        try simp only [cut_last, fIx_last, dT_succ, lsub, rL_succ, rL_len, List.length_append, rD, g_tup2, g_tup3, fNotN_at, fIsN_at, List.getElem?_cons_succ, List.getElem?_cons_zero, s_par3, s_lc, fCut_at, fAdd_lst, fAdd_tup, fList_lst, fList_tup, fTuple_lst, fMul_lst, items_lst, items_tup, range2_at, zip_at, s_body, s_seq, s_next, s_onE, s_onT, s_asg, s_par, s_for, s_raise, s_try, s_asgG, w_bind, w_pure, w_need, w_fail, w_calm, g_0, g_s, fEq_int, fNe_int, fEq_str, fNe_str, fInt_at, fInt0_at, fAdd_int, fCmp_at, fNeg_at, fLen_tup, fLen_lst, fIx_t0, fIx_l0, fIx_t1, fIx_l1, fIntC_at, fAbs_at, fGcd_at, fRepr_at, fBits_at, fIs_at, range_at, List.map_cons, List.map_nil, List.length_cons, List.length_nil, List.cons_append, List.nil_append, List.set_cons_zero, List.set_cons_succ, List.replicate, Nat.reduceAdd, Nat.reduceSub, List.append_nil, dName, true_and, and_true, Nat.zero_add, Nat.sub_self]
        by_cases zb : zB l g.1 = true
        · have enb : signR rootIn l r a b m (-1) = none := by
            unfold signR
            rw [eb]
            exact if_pos zb
          refine ifF (by simp [zb]) ?_
          have hk : Kd (optT (l + 1) (match signR rootIn l r a b m 1 with | some g => some g | none => signR rootIn l r a b m (-1))) n := hk; rw [ena, enb] at hk
          exact hk
        · refine ifT (by simpa using zb) ?_
          try simp only [cut_last, fIx_last, dT_succ, lsub, rL_succ, rL_len, List.length_append, rD, g_tup2, g_tup3, fNotN_at, fIsN_at, List.getElem?_cons_succ, List.getElem?_cons_zero, s_par3, s_lc, fCut_at, fAdd_lst, fAdd_tup, fList_lst, fList_tup, fTuple_lst, fMul_lst, items_lst, items_tup, range2_at, zip_at, s_body, s_seq, s_next, s_onE, s_onT, s_asg, s_par, s_for, s_raise, s_try, s_asgG, w_bind, w_pure, w_need, w_fail, w_calm, g_0, g_s, fEq_int, fNe_int, fEq_str, fNe_str, fInt_at, fInt0_at, fAdd_int, fCmp_at, fNeg_at, fLen_tup, fLen_lst, fIx_t0, fIx_l0, fIx_t1, fIx_l1, fIntC_at, fAbs_at, fGcd_at, fRepr_at, fBits_at, fIs_at, range_at, List.map_cons, List.map_nil, List.length_cons, List.length_nil, List.cons_append, List.nil_append, List.set_cons_zero, List.set_cons_succ, List.replicate, Nat.reduceAdd, Nat.reduceSub, List.append_nil, dName, true_and, and_true, Nat.zero_add, Nat.sub_self]
          refine ⟨l, r.1, g.2, _, _, _, rfl, ⟨by omega, by omega, hr.1, bg2, bot, by omega⟩, ?_⟩
          refine ⟨l, r.1, g.1, g.1, _, _, rfl, ⟨by omega, by omega, hr.1, bg1, bg1, by omega⟩, ?_⟩
          refine ⟨l, _, 2, _, rfl, ⟨by omega, Bd.mul hr.1 bg1 bg1, by omega, by decide⟩, ?_⟩
          refine ⟨l, r.1, _, _, _, _, rfl, ⟨by omega, by omega, hr.1, bt, bt, by omega⟩, ?_⟩
          refine ⟨l, r.1, _, b, _, _, rfl, ⟨by omega, by omega, hr.1, Bd.mul hr.1 bt bt, hb, by omega⟩, ?_⟩
          refine ⟨l, r.1, g.1, _, _, _, rfl, ⟨by omega, by omega, hr.1, bg1, bt, by omega⟩, ?_⟩
          refine ⟨l, _, 2, _, rfl, ⟨by omega, Bd.mul hr.1 bg1 bt, by omega, by decide⟩, ?_⟩
          refine ⟨fits_small (by simp), l, _, rfl, by omega, fits_small (by simp), ?_⟩
          have esb : signR rootIn l r a b m (-1) = some ((sg l 2 (mulT l r.1 g.1 g.1), mulT l r.1 (mulT l r.1 (mulT l r.1 g.2 (sg l 2 m.2)) (mulT l r.1 g.2 (sg l 2 m.2))) b), (sg l 2 (mulT l r.1 g.1 (mulT l r.1 g.2 (sg l 2 m.2))), zT l)) := by
            unfold signR
            rw [eb]
            exact if_neg zb
          have hk : Kd (optT (l + 1) (match signR rootIn l r a b m 1 with | some g => some g | none => signR rootIn l r a b m (-1))) n := hk; rw [ena, esb] at hk
          exact hk
    | some g =>
      obtain ⟨bg1, bg2⟩ := c5a g ea
      have bt := Bd.mul hr.1 bg2 bot
      rw [optT_some]
      try simp only [cut_last, fIx_last, dT_succ, lsub, rL_succ, rL_len, List.length_append, rD, g_tup2, g_tup3, fNotN_at, fIsN_at, List.getElem?_cons_succ, List.getElem?_cons_zero, s_par3, s_lc, fCut_at, fAdd_lst, fAdd_tup, fList_lst, fList_tup, fTuple_lst, fMul_lst, items_lst, items_tup, range2_at, zip_at, s_body, s_seq, s_next, s_onE, s_onT, s_asg, s_par, s_for, s_raise, s_try, s_asgG, w_bind, w_pure, w_need, w_fail, w_calm, g_0, g_s, fEq_int, fNe_int, fEq_str, fNe_str, fInt_at, fInt0_at, fAdd_int, fCmp_at, fNeg_at, fLen_tup, fLen_lst, fIx_t0, fIx_l0, fIx_t1, fIx_l1, fIntC_at, fAbs_at, fGcd_at, fRepr_at, fBits_at, fIs_at, range_at, List.map_cons, List.map_nil, List.length_cons, List.length_nil, List.cons_append, List.nil_append, List.set_cons_zero, List.set_cons_succ, List.replicate, Nat.reduceAdd, Nat.reduceSub, List.append_nil, dName, true_and, and_true, Nat.zero_add, Nat.sub_self]
      rw [w_ite]
      refine ifT (by simp [nonB]) ?_
      try simp only [cut_last, fIx_last, dT_succ, lsub, rL_succ, rL_len, List.length_append, rD, g_tup2, g_tup3, fNotN_at, fIsN_at, List.getElem?_cons_succ, List.getElem?_cons_zero, s_par3, s_lc, fCut_at, fAdd_lst, fAdd_tup, fList_lst, fList_tup, fTuple_lst, fMul_lst, items_lst, items_tup, range2_at, zip_at, s_body, s_seq, s_next, s_onE, s_onT, s_asg, s_par, s_for, s_raise, s_try, s_asgG, w_bind, w_pure, w_need, w_fail, w_calm, g_0, g_s, fEq_int, fNe_int, fEq_str, fNe_str, fInt_at, fInt0_at, fAdd_int, fCmp_at, fNeg_at, fLen_tup, fLen_lst, fIx_t0, fIx_l0, fIx_t1, fIx_l1, fIntC_at, fAbs_at, fGcd_at, fRepr_at, fBits_at, fIs_at, range_at, List.map_cons, List.map_nil, List.length_cons, List.length_nil, List.cons_append, List.nil_append, List.set_cons_zero, List.set_cons_succ, List.replicate, Nat.reduceAdd, Nat.reduceSub, List.append_nil, dName, true_and, and_true, Nat.zero_add, Nat.sub_self]
      refine ⟨l, g.1, rfl, by omega, ?_⟩
      try simp only [cut_last, fIx_last, dT_succ, lsub, rL_succ, rL_len, List.length_append, rD, g_tup2, g_tup3, fNotN_at, fIsN_at, List.getElem?_cons_succ, List.getElem?_cons_zero, s_par3, s_lc, fCut_at, fAdd_lst, fAdd_tup, fList_lst, fList_tup, fTuple_lst, fMul_lst, items_lst, items_tup, range2_at, zip_at, s_body, s_seq, s_next, s_onE, s_onT, s_asg, s_par, s_for, s_raise, s_try, s_asgG, w_bind, w_pure, w_need, w_fail, w_calm, g_0, g_s, fEq_int, fNe_int, fEq_str, fNe_str, fInt_at, fInt0_at, fAdd_int, fCmp_at, fNeg_at, fLen_tup, fLen_lst, fIx_t0, fIx_l0, fIx_t1, fIx_l1, fIntC_at, fAbs_at, fGcd_at, fRepr_at, fBits_at, fIs_at, range_at, List.map_cons, List.map_nil, List.length_cons, List.length_nil, List.cons_append, List.nil_append, List.set_cons_zero, List.set_cons_succ, List.replicate, Nat.reduceAdd, Nat.reduceSub, List.append_nil, dName, true_and, and_true, Nat.zero_add, Nat.sub_self]
      by_cases za : zB l g.1 = true
      · have ena : signR rootIn l r a b m (1) = none := by
          unfold signR
          rw [ea]
          exact if_pos za
        refine ifF (by simp [za]) ?_
        try simp only [cut_last, fIx_last, dT_succ, lsub, rL_succ, rL_len, List.length_append, rD, g_tup2, g_tup3, fNotN_at, fIsN_at, List.getElem?_cons_succ, List.getElem?_cons_zero, s_par3, s_lc, fCut_at, fAdd_lst, fAdd_tup, fList_lst, fList_tup, fTuple_lst, fMul_lst, items_lst, items_tup, range2_at, zip_at, s_body, s_seq, s_next, s_onE, s_onT, s_asg, s_par, s_for, s_raise, s_try, s_asgG, w_bind, w_pure, w_need, w_fail, w_calm, g_0, g_s, fEq_int, fNe_int, fEq_str, fNe_str, fInt_at, fInt0_at, fAdd_int, fCmp_at, fNeg_at, fLen_tup, fLen_lst, fIx_t0, fIx_l0, fIx_t1, fIx_l1, fIntC_at, fAbs_at, fGcd_at, fRepr_at, fBits_at, fIs_at, range_at, List.map_cons, List.map_nil, List.length_cons, List.length_nil, List.cons_append, List.nil_append, List.set_cons_zero, List.set_cons_succ, List.replicate, Nat.reduceAdd, Nat.reduceSub, List.append_nil, dName, true_and, and_true, Nat.zero_add, Nat.sub_self]
        unfold forD
        try simp only [cut_last, fIx_last, dT_succ, lsub, rL_succ, rL_len, List.length_append, rD, g_tup2, g_tup3, fNotN_at, fIsN_at, List.getElem?_cons_succ, List.getElem?_cons_zero, s_par3, s_lc, fCut_at, fAdd_lst, fAdd_tup, fList_lst, fList_tup, fTuple_lst, fMul_lst, items_lst, items_tup, range2_at, zip_at, s_body, s_seq, s_next, s_onE, s_onT, s_asg, s_par, s_for, s_raise, s_try, s_asgG, w_bind, w_pure, w_need, w_fail, w_calm, g_0, g_s, fEq_int, fNe_int, fEq_str, fNe_str, fInt_at, fInt0_at, fAdd_int, fCmp_at, fNeg_at, fLen_tup, fLen_lst, fIx_t0, fIx_l0, fIx_t1, fIx_l1, fIntC_at, fAbs_at, fGcd_at, fRepr_at, fBits_at, fIs_at, range_at, List.map_cons, List.map_nil, List.length_cons, List.length_nil, List.cons_append, List.nil_append, List.set_cons_zero, List.set_cons_succ, List.replicate, Nat.reduceAdd, Nat.reduceSub, List.append_nil, dName, true_and, and_true, Nat.zero_add, Nat.sub_self]
        obtain ⟨c4b, c5b⟩ := c3 (-1) (by decide)
        refine ⟨l, r.1, a, m.2, _, _, rfl, ⟨by omega, by omega, hr.1, ha, bm2, by omega⟩, ?_⟩
        refine ⟨l, m.1, -1, _, rfl, ⟨by omega, bm1, by omega, by decide⟩, ?_⟩
        refine ⟨l, _, _, rfl, by omega, ?_⟩
        refine ⟨l, m.2, 2, _, rfl, ⟨by omega, bm2, by omega, by decide⟩, ?_⟩
        refine ⟨l, r.1, _, _, _, _, rfl, ⟨by omega, by omega, hr.1, top (-1) (by decide), bot, by omega⟩, ?_⟩
        refine ⟨l, r.1, _, rfl, ⟨hlj, by omega, hr.1, c4b⟩, ?_⟩
        cases eb : rootIn l r.1 (mulT l r.1 (addT l (mulT l r.1 a m.2) (sg l (-1) m.1)) (sg l 2 m.2)) with
        | none =>
          have enb : signR rootIn l r a b m (-1) = none := by
            unfold signR
            rw [eb]
          rw [optT_none]
          try simp only [cut_last, fIx_last, dT_succ, lsub, rL_succ, rL_len, List.length_append, rD, g_tup2, g_tup3, fNotN_at, fIsN_at, List.getElem?_cons_succ, List.getElem?_cons_zero, s_par3, s_lc, fCut_at, fAdd_lst, fAdd_tup, fList_lst, fList_tup, fTuple_lst, fMul_lst, items_lst, items_tup, range2_at, zip_at, s_body, s_seq, s_next, s_onE, s_onT, s_asg, s_par, s_for, s_raise, s_try, s_asgG, w_bind, w_pure, w_need, w_fail, w_calm, g_0, g_s, fEq_int, fNe_int, fEq_str, fNe_str, fInt_at, fInt0_at, fAdd_int, fCmp_at, fNeg_at, fLen_tup, fLen_lst, fIx_t0, fIx_l0, fIx_t1, fIx_l1, fIntC_at, fAbs_at, fGcd_at, fRepr_at, fBits_at, fIs_at, range_at, List.map_cons, List.map_nil, List.length_cons, List.length_nil, List.cons_append, List.nil_append, List.set_cons_zero, List.set_cons_succ, List.replicate, Nat.reduceAdd, Nat.reduceSub, List.append_nil, dName, true_and, and_true, Nat.zero_add, Nat.sub_self]
          rw [w_ite]
          refine ifF (by simp [nonB]) ?_
          have hk : Kd (optT (l + 1) (match signR rootIn l r a b m 1 with | some g => some g | none => signR rootIn l r a b m (-1))) n := hk; rw [ena, enb] at hk
          exact hk
        | some g =>
          obtain ⟨bg1, bg2⟩ := c5b g eb
          have bt := Bd.mul hr.1 bg2 bot
          rw [optT_some]
          try simp only [cut_last, fIx_last, dT_succ, lsub, rL_succ, rL_len, List.length_append, rD, g_tup2, g_tup3, fNotN_at, fIsN_at, List.getElem?_cons_succ, List.getElem?_cons_zero, s_par3, s_lc, fCut_at, fAdd_lst, fAdd_tup, fList_lst, fList_tup, fTuple_lst, fMul_lst, items_lst, items_tup, range2_at, zip_at, s_body, s_seq, s_next, s_onE, s_onT, s_asg, s_par, s_for, s_raise, s_try, s_asgG, w_bind, w_pure, w_need, w_fail, w_calm, g_0, g_s, fEq_int, fNe_int, fEq_str, fNe_str, fInt_at, fInt0_at, fAdd_int, fCmp_at, fNeg_at, fLen_tup, fLen_lst, fIx_t0, fIx_l0, fIx_t1, fIx_l1, fIntC_at, fAbs_at, fGcd_at, fRepr_at, fBits_at, fIs_at, range_at, List.map_cons, List.map_nil, List.length_cons, List.length_nil, List.cons_append, List.nil_append, List.set_cons_zero, List.set_cons_succ, List.replicate, Nat.reduceAdd, Nat.reduceSub, List.append_nil, dName, true_and, and_true, Nat.zero_add, Nat.sub_self]
          rw [w_ite]
          refine ifT (by simp [nonB]) ?_
          try simp only [cut_last, fIx_last, dT_succ, lsub, rL_succ, rL_len, List.length_append, rD, g_tup2, g_tup3, fNotN_at, fIsN_at, List.getElem?_cons_succ, List.getElem?_cons_zero, s_par3, s_lc, fCut_at, fAdd_lst, fAdd_tup, fList_lst, fList_tup, fTuple_lst, fMul_lst, items_lst, items_tup, range2_at, zip_at, s_body, s_seq, s_next, s_onE, s_onT, s_asg, s_par, s_for, s_raise, s_try, s_asgG, w_bind, w_pure, w_need, w_fail, w_calm, g_0, g_s, fEq_int, fNe_int, fEq_str, fNe_str, fInt_at, fInt0_at, fAdd_int, fCmp_at, fNeg_at, fLen_tup, fLen_lst, fIx_t0, fIx_l0, fIx_t1, fIx_l1, fIntC_at, fAbs_at, fGcd_at, fRepr_at, fBits_at, fIs_at, range_at, List.map_cons, List.map_nil, List.length_cons, List.length_nil, List.cons_append, List.nil_append, List.set_cons_zero, List.set_cons_succ, List.replicate, Nat.reduceAdd, Nat.reduceSub, List.append_nil, dName, true_and, and_true, Nat.zero_add, Nat.sub_self]
          refine ⟨l, g.1, rfl, by omega, ?_⟩
          try simp only [cut_last, fIx_last, dT_succ, lsub, rL_succ, rL_len, List.length_append, rD, g_tup2, g_tup3, fNotN_at, fIsN_at, List.getElem?_cons_succ, List.getElem?_cons_zero, s_par3, s_lc, fCut_at, fAdd_lst, fAdd_tup, fList_lst, fList_tup, fTuple_lst, fMul_lst, items_lst, items_tup, range2_at, zip_at, s_body, s_seq, s_next, s_onE, s_onT, s_asg, s_par, s_for, s_raise, s_try, s_asgG, w_bind, w_pure, w_need, w_fail, w_calm, g_0, g_s, fEq_int, fNe_int, fEq_str, fNe_str, fInt_at, fInt0_at, fAdd_int, fCmp_at, fNeg_at, fLen_tup, fLen_lst, fIx_t0, fIx_l0, fIx_t1, fIx_l1, fIntC_at, fAbs_at, fGcd_at, fRepr_at, fBits_at, fIs_at, range_at, List.map_cons, List.map_nil, List.length_cons, List.length_nil, List.cons_append, List.nil_append, List.set_cons_zero, List.set_cons_succ, List.replicate, Nat.reduceAdd, Nat.reduceSub, List.append_nil, dName, true_and, and_true, Nat.zero_add, Nat.sub_self]
          by_cases zb : zB l g.1 = true
          · have enb : signR rootIn l r a b m (-1) = none := by
              unfold signR
              rw [eb]
              exact if_pos zb
            refine ifF (by simp [zb]) ?_
            have hk : Kd (optT (l + 1) (match signR rootIn l r a b m 1 with | some g => some g | none => signR rootIn l r a b m (-1))) n := hk; rw [ena, enb] at hk
            exact hk
          · refine ifT (by simpa using zb) ?_
            try simp only [cut_last, fIx_last, dT_succ, lsub, rL_succ, rL_len, List.length_append, rD, g_tup2, g_tup3, fNotN_at, fIsN_at, List.getElem?_cons_succ, List.getElem?_cons_zero, s_par3, s_lc, fCut_at, fAdd_lst, fAdd_tup, fList_lst, fList_tup, fTuple_lst, fMul_lst, items_lst, items_tup, range2_at, zip_at, s_body, s_seq, s_next, s_onE, s_onT, s_asg, s_par, s_for, s_raise, s_try, s_asgG, w_bind, w_pure, w_need, w_fail, w_calm, g_0, g_s, fEq_int, fNe_int, fEq_str, fNe_str, fInt_at, fInt0_at, fAdd_int, fCmp_at, fNeg_at, fLen_tup, fLen_lst, fIx_t0, fIx_l0, fIx_t1, fIx_l1, fIntC_at, fAbs_at, fGcd_at, fRepr_at, fBits_at, fIs_at, range_at, List.map_cons, List.map_nil, List.length_cons, List.length_nil, List.cons_append, List.nil_append, List.set_cons_zero, List.set_cons_succ, List.replicate, Nat.reduceAdd, Nat.reduceSub, List.append_nil, dName, true_and, and_true, Nat.zero_add, Nat.sub_self]
            refine ⟨l, r.1, g.2, _, _, _, rfl, ⟨by omega, by omega, hr.1, bg2, bot, by omega⟩, ?_⟩
            refine ⟨l, r.1, g.1, g.1, _, _, rfl, ⟨by omega, by omega, hr.1, bg1, bg1, by omega⟩, ?_⟩
            refine ⟨l, _, 2, _, rfl, ⟨by omega, Bd.mul hr.1 bg1 bg1, by omega, by decide⟩, ?_⟩
            refine ⟨l, r.1, _, _, _, _, rfl, ⟨by omega, by omega, hr.1, bt, bt, by omega⟩, ?_⟩
            refine ⟨l, r.1, _, b, _, _, rfl, ⟨by omega, by omega, hr.1, Bd.mul hr.1 bt bt, hb, by omega⟩, ?_⟩
            refine ⟨l, r.1, g.1, _, _, _, rfl, ⟨by omega, by omega, hr.1, bg1, bt, by omega⟩, ?_⟩
            refine ⟨l, _, 2, _, rfl, ⟨by omega, Bd.mul hr.1 bg1 bt, by omega, by decide⟩, ?_⟩
            refine ⟨fits_small (by simp), l, _, rfl, by omega, fits_small (by simp), ?_⟩
            have esb : signR rootIn l r a b m (-1) = some ((sg l 2 (mulT l r.1 g.1 g.1), mulT l r.1 (mulT l r.1 (mulT l r.1 g.2 (sg l 2 m.2)) (mulT l r.1 g.2 (sg l 2 m.2))) b), (sg l 2 (mulT l r.1 g.1 (mulT l r.1 g.2 (sg l 2 m.2))), zT l)) := by
              unfold signR
              rw [eb]
              exact if_neg zb
            have hk : Kd (optT (l + 1) (match signR rootIn l r a b m 1 with | some g => some g | none => signR rootIn l r a b m (-1))) n := hk; rw [ena, esb] at hk
            exact hk
      · refine ifT (by simpa using za) ?_
        try simp only [cut_last, fIx_last, dT_succ, lsub, rL_succ, rL_len, List.length_append, rD, g_tup2, g_tup3, fNotN_at, fIsN_at, List.getElem?_cons_succ, List.getElem?_cons_zero, s_par3, s_lc, fCut_at, fAdd_lst, fAdd_tup, fList_lst, fList_tup, fTuple_lst, fMul_lst, items_lst, items_tup, range2_at, zip_at, s_body, s_seq, s_next, s_onE, s_onT, s_asg, s_par, s_for, s_raise, s_try, s_asgG, w_bind, w_pure, w_need, w_fail, w_calm, g_0, g_s, fEq_int, fNe_int, fEq_str, fNe_str, fInt_at, fInt0_at, fAdd_int, fCmp_at, fNeg_at, fLen_tup, fLen_lst, fIx_t0, fIx_l0, fIx_t1, fIx_l1, fIntC_at, fAbs_at, fGcd_at, fRepr_at, fBits_at, fIs_at, range_at, List.map_cons, List.map_nil, List.length_cons, List.length_nil, List.cons_append, List.nil_append, List.set_cons_zero, List.set_cons_succ, List.replicate, Nat.reduceAdd, Nat.reduceSub, List.append_nil, dName, true_and, and_true, Nat.zero_add, Nat.sub_self]
        refine ⟨l, r.1, g.2, _, _, _, rfl, ⟨by omega, by omega, hr.1, bg2, bot, by omega⟩, ?_⟩
        refine ⟨l, r.1, g.1, g.1, _, _, rfl, ⟨by omega, by omega, hr.1, bg1, bg1, by omega⟩, ?_⟩
        refine ⟨l, _, 2, _, rfl, ⟨by omega, Bd.mul hr.1 bg1 bg1, by omega, by decide⟩, ?_⟩
        refine ⟨l, r.1, _, _, _, _, rfl, ⟨by omega, by omega, hr.1, bt, bt, by omega⟩, ?_⟩
        refine ⟨l, r.1, _, b, _, _, rfl, ⟨by omega, by omega, hr.1, Bd.mul hr.1 bt bt, hb, by omega⟩, ?_⟩
        refine ⟨l, r.1, g.1, _, _, _, rfl, ⟨by omega, by omega, hr.1, bg1, bt, by omega⟩, ?_⟩
        refine ⟨l, _, 2, _, rfl, ⟨by omega, Bd.mul hr.1 bg1 bt, by omega, by decide⟩, ?_⟩
        refine ⟨fits_small (by simp), l, _, rfl, by omega, fits_small (by simp), ?_⟩
        have esa : signR rootIn l r a b m (1) = some ((sg l 2 (mulT l r.1 g.1 g.1), mulT l r.1 (mulT l r.1 (mulT l r.1 g.2 (sg l 2 m.2)) (mulT l r.1 g.2 (sg l 2 m.2))) b), (sg l 2 (mulT l r.1 g.1 (mulT l r.1 g.2 (sg l 2 m.2))), zT l)) := by
          unfold signR
          rw [ea]
          exact if_neg za
        have hk : Kd (optT (l + 1) (match signR rootIn l r a b m 1 with | some g => some g | none => signR rootIn l r a b m (-1))) n := hk; rw [esa] at hk
        exact hk
theorem rec_root_in (F1 : DefF K mg "root_in" s_root_in ["roots", "number"]) (F2 : DefF K mg "flat_root" s_flat_root ["roots", "number"]) (F3 : DefF K mg "mixed_root" s_mixed_root ["roots", "number"]) (h_zero_plain : DefG P w K mg base "zero_plain" ["level", "number"] 2 w_zero_plain) (h_plain_integer : DefG P w K mg base "plain_integer" ["level", "number"] 2 w_plain_integer) (h_whole_root : DefG P w K mg base "whole_root" ["number"] 1 w_whole_root) (h_lift_plain : DefG P w K mg base "lift_plain" ["low", "high", "number"] 3 w_lift_plain) (h_product_plain : DefG P w K mg base "product_plain" ["roots", "one", "other"] 8 (w_product_plain 4)) (h_times_int : DefG P w K mg base "times_int" ["level", "one", "number"] 2 w_times_int) (h_sum_plain : DefG P w K mg base "sum_plain" ["level", "one", "other"] 2 w_sum_plain) (h_less_plain : DefG P w K mg base "less_plain" ["level", "one", "other"] 3 w_less_plain) (m_len : mg "len" = none) : DefG P w K mg base "root_in" ["roots", "number"] 15 (w_root_in 3) := by
  have go : ∀ j, DefG P w K mg base "root_in" ["roots", "number"] (2 * j + 9) (w_root_in j) := by
    intro j
    induction j with
    | zero => exact def_false F1 fun ds Kd Kx n ⟨l, r, x, h1, h2, h3⟩ => absurd h2.1 (Nat.not_lt_zero _)
    | succ j ih =>
      have h2 := ok_flat_root (F := F2) (h_root_in := ih) (h_lift_plain := h_lift_plain) (h_product_plain := h_product_plain) (h_plain_integer := h_plain_integer) (m_len := m_len)
      have h3 := ok_mixed_root (F := F3) (h_root_in := ih) (h_lift_plain := h_lift_plain) (h_product_plain := h_product_plain) (h_times_int := h_times_int) (h_sum_plain := h_sum_plain) (h_less_plain := h_less_plain) (h_zero_plain := h_zero_plain) (m_len := m_len)
      exact (ok_root_in (F := F1) (h_flat_root := h2) (h_mixed_root := h3) (h_zero_plain := h_zero_plain) (h_plain_integer := h_plain_integer) (h_whole_root := h_whole_root) (m_len := m_len)).mono (by omega)
  exact go 3

theorem ok_roots_from  (F : DefF K mg "roots_from" s_roots_from ["roots"]) (m_range : mg "range" = none) (m_len : mg "len" = none) (h_root_in : DefG P w K mg base "root_in" ["roots", "number"] (15) (w_root_in 3)) (h_is_plain : DefG P w K mg base "is_plain" ["level", "value"] (2) w_is_plain) (e_BadRow : ErrG P w K mg base "BadRow" C_BadRow fs_BadRow 1) (m_MOST_LEVEL : mg "MOST_LEVEL" = some (.int 3 TK_MOST_LEVEL)) (m_tuple : mg "tuple" = none) (m_isinstance : mg "isinstance" = none) (h_in_tuples : DefG P w K mg base "in_tuples" ["value"] (7) (w_in_tuples 6)) : DefG P w K mg base "roots_from" ["roots"] (15 + 1) (w_roots_from C_BadRow) := by
  obtain ⟨f_root_in, d_root_in, G_root_in, n_root_in, q_root_in, b_root_in⟩ := h_root_in.ex
  obtain ⟨f_is_plain, d_is_plain, G_is_plain, n_is_plain, q_is_plain, b_is_plain⟩ := h_is_plain.ex
  obtain ⟨fi_BadRow, fd_BadRow, ps_BadRow, T_BadRow, i_BadRow, t_BadRow, F_BadRow, B_BadRow, g_BadRow⟩ := e_BadRow.ex
  obtain ⟨f_in_tuples, d_in_tuples, G_in_tuples, n_in_tuples, q_in_tuples, b_in_tuples⟩ := h_in_tuples.ex
  refine def_ok (k := 15) F sc_roots_from (fun f cdv A outer s H E hg hr => (DSs.cons (DS.set (k := 1) (fun _ => sc_roots_from.nd) (fun _ => rfl) (fun _ => (.inl rfl)) (DE.call (fun _ => G_in_tuples) (fun _ => hg) (fun _ => hr.mono (by omega)) (fun _ => takes_of rfl rfl rfl rfl) (fun _ => by rfl) (fun _ => n_in_tuples) (fun _ => q_in_tuples) (fun _ => b_in_tuples) (DA.cons (DE.var fun _ => pv 0) DA.nil)))
    (DSs.cons (DS.ifS (DW.pt (DW.or (DT.not (DT.val (DE.isi1 (fun _ => rfl) (fun _ => pe_bltn (v := .ty "tuple") (by rfl) m_tuple (by decide +kernel) rfl) (.ty "tuple") (fun _ => by rfl) (fun _ => m_isinstance) (DE.var fun _ => pv 1)))) (DW.or1 (DT.cmp (fun _ => op_gt) sem_cmpI (DE.opL (fun _ _ ha => pe_callB call_lenA (by rfl) m_len (by decide +kernel) ha) sem_len (DA.cons (DE.var fun _ => pv 1) DA.nil)) (DE.glob (fun _ => by rfl) (fun _ => m_MOST_LEVEL)))))) (DSs.one (DS.raise (fun _ => rfl) (fun _ => takes_of rfl rfl rfl rfl) (fun _ => T_BadRow) (by simp) (by simp) (fun _ => i_BadRow) (fun _ => t_BadRow) (fun _ => F_BadRow) (fun _ => hr.mono (by omega)) (fun _ => B_BadRow) (fun _ => by rfl) (fun _ => g_BadRow) (DA.cons (DE.var fun _ => pv 0) DA.nil))) DSs.nil)
    (DSs.cons (DS.for (fun _ => passes_of rfl) (fun _ => rfl) (DI.range1 (fun _ => by rfl) (fun _ => m_range) (DA.cons (DE.opL (fun _ _ ha => pe_callB call_lenA (by rfl) m_len (by decide +kernel) ha) sem_len (DA.cons (DE.var fun _ => pv 1) DA.nil)) DA.nil)) (DG.name (k := 2) (fun _ => pg_name sc_roots_from.nd rfl (.inl rfl))) (DSs.one (DS.ifS (DW.pt (DW.or (DT.not (DT.val (DE.call (fun _ => G_is_plain) (fun _ => hg) (fun _ => hr.mono (by omega)) (fun _ => takes_of rfl rfl rfl rfl) (fun _ => by rfl) (fun _ => n_is_plain) (fun _ => q_is_plain) (fun _ => b_is_plain) (DA.cons (DE.var fun _ => pv 2) (DA.cons (DE.op2 (fun _ _ _ p q => pe_ix ix_seq p q (fun _ _ => rfl)) sem_ix (DE.var fun _ => pv 1) (DE.var fun _ => pv 2)) DA.nil))))) (DW.or1 (DT.cmp (fun _ => op_notN) sem_notN (DE.call (fun _ => G_root_in) (fun _ => hg) (fun _ => hr.mono (by omega)) (fun _ => takes_of rfl rfl rfl rfl) (fun _ => by rfl) (fun _ => n_root_in) (fun _ => q_root_in) (fun _ => b_root_in) (DA.cons (DE.sl (fun _ => rfl) (DE.var fun _ => pv 1) DO.no (DO.so (DE.var fun _ => pv 2))) (DA.cons (DE.op2 (fun _ _ _ p q => pe_ix ix_seq p q (fun _ _ => rfl)) sem_ix (DE.var fun _ => pv 1) (DE.var fun _ => pv 2)) DA.nil))) DE.non)))) (DSs.one (DS.raise (fun _ => rfl) (fun _ => takes_of rfl rfl rfl rfl) (fun _ => T_BadRow) (by simp) (by simp) (fun _ => i_BadRow) (fun _ => t_BadRow) (fun _ => F_BadRow) (fun _ => hr.mono (by omega)) (fun _ => B_BadRow) (fun _ => by rfl) (fun _ => g_BadRow) (DA.cons (DE.var fun _ => pv 0) DA.nil))) DSs.nil)))
    (DSs.one (DS.ret (DE.var fun _ => pv 1))))))) fun ds Kd Kx n hl h => ?_
  obtain ⟨d, rfl, hd, h⟩ := h
  simp only [cut_last, fIx_last, dT_succ, lsub, rL_succ, rL_len, List.length_append, rD, g_tup2, g_tup3, fNotN_at, fIsN_at, List.getElem?_cons_succ, List.getElem?_cons_zero, s_par3, s_lc, fCut_at, fAdd_lst, fAdd_tup, fList_lst, fList_tup, fTuple_lst, fMul_lst, items_lst, items_tup, range2_at, zip_at, s_body, s_seq, s_next, s_onE, s_onT, s_asg, s_par, s_for, s_raise, s_try, s_asgG, w_bind, w_pure, w_need, w_fail, w_calm, g_0, g_s, fEq_int, fNe_int, fEq_str, fNe_str, fInt_at, fInt0_at, fAdd_int, fCmp_at, fNeg_at, fLen_tup, fLen_lst, fIx_t0, fIx_l0, fIx_t1, fIx_l1, fIntC_at, fAbs_at, fGcd_at, fRepr_at, fBits_at, fIs_at, range_at, List.map_cons, List.map_nil, List.length_cons, List.length_nil, List.cons_append, List.nil_append, List.set_cons_zero, List.set_cons_succ, List.replicate, Nat.reduceAdd, Nat.reduceSub, List.append_nil, dName, true_and, and_true, Nat.zero_add, Nat.sub_self]
  refine ⟨hd, ?_⟩
  have ht := okDp_tupled hd
  try simp only [cut_last, fIx_last, dT_succ, lsub, rL_succ, rL_len, List.length_append, rD, g_tup2, g_tup3, fNotN_at, fIsN_at, List.getElem?_cons_succ, List.getElem?_cons_zero, s_par3, s_lc, fCut_at, fAdd_lst, fAdd_tup, fList_lst, fList_tup, fTuple_lst, fMul_lst, items_lst, items_tup, range2_at, zip_at, s_body, s_seq, s_next, s_onE, s_onT, s_asg, s_par, s_for, s_raise, s_try, s_asgG, w_bind, w_pure, w_need, w_fail, w_calm, g_0, g_s, fEq_int, fNe_int, fEq_str, fNe_str, fInt_at, fInt0_at, fAdd_int, fCmp_at, fNeg_at, fLen_tup, fLen_lst, fIx_t0, fIx_l0, fIx_t1, fIx_l1, fIntC_at, fAbs_at, fGcd_at, fRepr_at, fBits_at, fIs_at, range_at, List.map_cons, List.map_nil, List.length_cons, List.length_nil, List.cons_append, List.nil_append, List.set_cons_zero, List.set_cons_succ, List.replicate, Nat.reduceAdd, Nat.reduceSub, List.append_nil, dName, true_and, and_true, Nat.zero_add, Nat.sub_self]
  rw [isi_tupled hd]
  try simp only [cut_last, fIx_last, dT_succ, lsub, rL_succ, rL_len, List.length_append, rD, g_tup2, g_tup3, fNotN_at, fIsN_at, List.getElem?_cons_succ, List.getElem?_cons_zero, s_par3, s_lc, fCut_at, fAdd_lst, fAdd_tup, fList_lst, fList_tup, fTuple_lst, fMul_lst, items_lst, items_tup, range2_at, zip_at, s_body, s_seq, s_next, s_onE, s_onT, s_asg, s_par, s_for, s_raise, s_try, s_asgG, w_bind, w_pure, w_need, w_fail, w_calm, g_0, g_s, fEq_int, fNe_int, fEq_str, fNe_str, fInt_at, fInt0_at, fAdd_int, fCmp_at, fNeg_at, fLen_tup, fLen_lst, fIx_t0, fIx_l0, fIx_t1, fIx_l1, fIntC_at, fAbs_at, fGcd_at, fRepr_at, fBits_at, fIs_at, range_at, List.map_cons, List.map_nil, List.length_cons, List.length_nil, List.cons_append, List.nil_append, List.set_cons_zero, List.set_cons_succ, List.replicate, Nat.reduceAdd, Nat.reduceSub, List.append_nil, dName, true_and, and_true, Nat.zero_add, Nat.sub_self]
  rw [w_ite]
  by_cases hb : tupB (tupled d) = true
  · refine ifF (by simp [hb]) ?_
    obtain ⟨es, he⟩ : ∃ es, tupled d = .tup es := by
      cases q : tupled d with
      | tup es => exact ⟨es, rfl⟩
      | _ => rw [q] at hb; cases hb
    rw [he] at ht ⊢
    simp only [cut_last, fIx_last, dT_succ, lsub, rL_succ, rL_len, List.length_append, rD, g_tup2, g_tup3, fNotN_at, fIsN_at, List.getElem?_cons_succ, List.getElem?_cons_zero, s_par3, s_lc, fCut_at, fAdd_lst, fAdd_tup, fList_lst, fList_tup, fTuple_lst, fMul_lst, items_lst, items_tup, range2_at, zip_at, s_body, s_seq, s_next, s_onE, s_onT, s_asg, s_par, s_for, s_raise, s_try, s_asgG, w_bind, w_pure, w_need, w_fail, w_calm, g_0, g_s, fEq_int, fNe_int, fEq_str, fNe_str, fInt_at, fInt0_at, fAdd_int, fCmp_at, fNeg_at, fLen_tup, fLen_lst, fIx_t0, fIx_l0, fIx_t1, fIx_l1, fIntC_at, fAbs_at, fGcd_at, fRepr_at, fBits_at, fIs_at, range_at, List.map_cons, List.map_nil, List.length_cons, List.length_nil, List.cons_append, List.nil_append, List.set_cons_zero, List.set_cons_succ, List.replicate, Nat.reduceAdd, Nat.reduceSub, List.append_nil, dName, true_and, and_true, Nat.zero_add, Nat.sub_self]
    have item : ∀ e ∈ es, okDp 6 e = true := fun e h => okDp_item ht h
    by_cases h3 : 3 < es.length
    · refine ifT (by simp; omega) ?_
      rcases h with ⟨l, r, ⟨e1, l3, hrb, hg⟩, hk⟩ | ⟨no, hk⟩
      · have e2 : es = rL l r := by rw [he] at e1; exact D.tup.inj e1
        rw [e2, rL_len] at h3
        omega
      · exact hk
    · refine ifF (by simp; omega) ?_
      refine ⟨⟨by omega, by omega⟩, ?_⟩
      rw [Int.toNat_natCast]
      rcases h with ⟨l, r, ⟨e1, l3, hrb, hg⟩, hk⟩ | ⟨no, hk⟩
      · have e2 : es = rL l r := by rw [he] at e1; exact D.tup.inj e1
        have e2l : es.length = l := by rw [e2, rL_len]
        refine forD_range (fun i ρ n' => n' = n ∧ ∃ z, ρ = [some (.d d), some (.d (.tup es)), z]) _ _ _ ⟨rfl, _, rfl⟩ (fun ρ n' hi => ?_) (fun i ρ n' E' hi hI hnx hrt hex => ?_)
        · obtain ⟨rfl, z, rfl⟩ := hi
          unfold rD at hk
          rw [← e2] at hk
          exact hk
        · obtain ⟨rfl, z, rfl⟩ := hI
          obtain ⟨q, rest, e3, b3, g3⟩ := rL_split l r i (by omega)
          rw [← e2] at e3
          replace b3 := b3 hrb
          replace g3 := g3 hg
          simp only [cut_last, fIx_last, dT_succ, lsub, rL_succ, rL_len, List.length_append, rD, g_tup2, g_tup3, fNotN_at, fIsN_at, List.getElem?_cons_succ, List.getElem?_cons_zero, s_par3, s_lc, fCut_at, fAdd_lst, fAdd_tup, fList_lst, fList_tup, fTuple_lst, fMul_lst, items_lst, items_tup, range2_at, zip_at, s_body, s_seq, s_next, s_onE, s_onT, s_asg, s_par, s_for, s_raise, s_try, s_asgG, w_bind, w_pure, w_need, w_fail, w_calm, g_0, g_s, fEq_int, fNe_int, fEq_str, fNe_str, fInt_at, fInt0_at, fAdd_int, fCmp_at, fNeg_at, fLen_tup, fLen_lst, fIx_t0, fIx_l0, fIx_t1, fIx_l1, fIntC_at, fAbs_at, fGcd_at, fRepr_at, fBits_at, fIs_at, range_at, List.map_cons, List.map_nil, List.length_cons, List.length_nil, List.cons_append, List.nil_append, List.set_cons_zero, List.set_cons_succ, List.replicate, Nat.reduceAdd, Nat.reduceSub, List.append_nil, dName, true_and, and_true, Nat.zero_add, Nat.sub_self]
          have ei : es[i]? = some (dT i q.2) := by rw [e3, rL_succ, List.append_assoc, List.getElem?_append_right (by rw [rL_len]; exact Nat.le_refl _), rL_len, Nat.sub_self]; rfl
          have ec : cutD es none (some (i : Int)) = rL i q.1 := by
            rw [cut_head (by omega), e3, rL_succ, List.append_assoc, List.take_append_of_le_length (by rw [rL_len]; exact Nat.le_refl _), List.take_of_length_le (by rw [rL_len]; exact Nat.le_refl _)]
          rw [fIx_t (atI_of ei)]
          refine ⟨i, _, rfl, ⟨by omega, item _ (List.mem_of_getElem? ei)⟩, ?_⟩
          rw [isPl_T]
          try simp only [cut_last, fIx_last, dT_succ, lsub, rL_succ, rL_len, List.length_append, rD, g_tup2, g_tup3, fNotN_at, fIsN_at, List.getElem?_cons_succ, List.getElem?_cons_zero, s_par3, s_lc, fCut_at, fAdd_lst, fAdd_tup, fList_lst, fList_tup, fTuple_lst, fMul_lst, items_lst, items_tup, range2_at, zip_at, s_body, s_seq, s_next, s_onE, s_onT, s_asg, s_par, s_for, s_raise, s_try, s_asgG, w_bind, w_pure, w_need, w_fail, w_calm, g_0, g_s, fEq_int, fNe_int, fEq_str, fNe_str, fInt_at, fInt0_at, fAdd_int, fCmp_at, fNeg_at, fLen_tup, fLen_lst, fIx_t0, fIx_l0, fIx_t1, fIx_l1, fIntC_at, fAbs_at, fGcd_at, fRepr_at, fBits_at, fIs_at, range_at, List.map_cons, List.map_nil, List.length_cons, List.length_nil, List.cons_append, List.nil_append, List.set_cons_zero, List.set_cons_succ, List.replicate, Nat.reduceAdd, Nat.reduceSub, List.append_nil, dName, true_and, and_true, Nat.zero_add, Nat.sub_self]
          rw [w_ite]
          refine ifF (by simp) ?_
          try simp only [cut_last, fIx_last, dT_succ, lsub, rL_succ, rL_len, List.length_append, rD, g_tup2, g_tup3, fNotN_at, fIsN_at, List.getElem?_cons_succ, List.getElem?_cons_zero, s_par3, s_lc, fCut_at, fAdd_lst, fAdd_tup, fList_lst, fList_tup, fTuple_lst, fMul_lst, items_lst, items_tup, range2_at, zip_at, s_body, s_seq, s_next, s_onE, s_onT, s_asg, s_par, s_for, s_raise, s_try, s_asgG, w_bind, w_pure, w_need, w_fail, w_calm, g_0, g_s, fEq_int, fNe_int, fEq_str, fNe_str, fInt_at, fInt0_at, fAdd_int, fCmp_at, fNeg_at, fLen_tup, fLen_lst, fIx_t0, fIx_l0, fIx_t1, fIx_l1, fIntC_at, fAbs_at, fGcd_at, fRepr_at, fBits_at, fIs_at, range_at, List.map_cons, List.map_nil, List.length_cons, List.length_nil, List.cons_append, List.nil_append, List.set_cons_zero, List.set_cons_succ, List.replicate, Nat.reduceAdd, Nat.reduceSub, List.append_nil, dName, true_and, and_true, Nat.zero_add, Nat.sub_self]
          rw [fIx_t (atI_of ei), ec]
          try simp only [cut_last, fIx_last, dT_succ, lsub, rL_succ, rL_len, List.length_append, rD, g_tup2, g_tup3, fNotN_at, fIsN_at, List.getElem?_cons_succ, List.getElem?_cons_zero, s_par3, s_lc, fCut_at, fAdd_lst, fAdd_tup, fList_lst, fList_tup, fTuple_lst, fMul_lst, items_lst, items_tup, range2_at, zip_at, s_body, s_seq, s_next, s_onE, s_onT, s_asg, s_par, s_for, s_raise, s_try, s_asgG, w_bind, w_pure, w_need, w_fail, w_calm, g_0, g_s, fEq_int, fNe_int, fEq_str, fNe_str, fInt_at, fInt0_at, fAdd_int, fCmp_at, fNeg_at, fLen_tup, fLen_lst, fIx_t0, fIx_l0, fIx_t1, fIx_l1, fIntC_at, fAbs_at, fGcd_at, fRepr_at, fBits_at, fIs_at, range_at, List.map_cons, List.map_nil, List.length_cons, List.length_nil, List.cons_append, List.nil_append, List.set_cons_zero, List.set_cons_succ, List.replicate, Nat.reduceAdd, Nat.reduceSub, List.append_nil, dName, true_and, and_true, Nat.zero_add, Nat.sub_self]
          refine ⟨i, q.1, q.2, rfl, ⟨by omega, by omega, b3.1, b3.2.mono (capP3 i)⟩, ?_⟩
          rw [goodR_succ g3, optT_none]
          try simp only [cut_last, fIx_last, dT_succ, lsub, rL_succ, rL_len, List.length_append, rD, g_tup2, g_tup3, fNotN_at, fIsN_at, List.getElem?_cons_succ, List.getElem?_cons_zero, s_par3, s_lc, fCut_at, fAdd_lst, fAdd_tup, fList_lst, fList_tup, fTuple_lst, fMul_lst, items_lst, items_tup, range2_at, zip_at, s_body, s_seq, s_next, s_onE, s_onT, s_asg, s_par, s_for, s_raise, s_try, s_asgG, w_bind, w_pure, w_need, w_fail, w_calm, g_0, g_s, fEq_int, fNe_int, fEq_str, fNe_str, fInt_at, fInt0_at, fAdd_int, fCmp_at, fNeg_at, fLen_tup, fLen_lst, fIx_t0, fIx_l0, fIx_t1, fIx_l1, fIntC_at, fAbs_at, fGcd_at, fRepr_at, fBits_at, fIs_at, range_at, List.map_cons, List.map_nil, List.length_cons, List.length_nil, List.cons_append, List.nil_append, List.set_cons_zero, List.set_cons_succ, List.replicate, Nat.reduceAdd, Nat.reduceSub, List.append_nil, dName, true_and, and_true, Nat.zero_add, Nat.sub_self]
          refine ifF (by simp [nonB]) ?_
          exact hnx _ _ ⟨rfl, _, rfl⟩
      · rcases no with hb' | ⟨es', e1, h4⟩ | ⟨l, r, bad, rest, e1, hl2, hrb, hg, hbad⟩
        · rw [hb] at hb'; cases hb'
        · rw [he] at e1
          cases D.tup.inj e1
          omega
        · have e2 : es = rL l r ++ bad :: rest := by rw [he] at e1; exact D.tup.inj e1
          have e2l : es.length = l + (rest.length + 1) := by rw [e2, List.length_append, rL_len, List.length_cons]
          refine forD_range (fun i ρ n' => n' = n ∧ i ≤ l ∧ ∃ z, ρ = [some (.d d), some (.d (.tup es)), z]) _ _ _ ⟨rfl, Nat.zero_le _, _, rfl⟩ (fun ρ n' hi => ?_) (fun i ρ n' E' hi hI hnx hrt hex => ?_)
          · obtain ⟨_, hle, _⟩ := hi
            omega
          · obtain ⟨rfl, hil, z, rfl⟩ := hI
            by_cases hlt : i < l
            · obtain ⟨q, rest', e3, b3, g3⟩ := rL_split l r i hlt
              rw [e3, List.append_assoc] at e2
              replace e3 := e2
              replace b3 := b3 hrb
              replace g3 := g3 hg
              simp only [cut_last, fIx_last, dT_succ, lsub, rL_succ, rL_len, List.length_append, rD, g_tup2, g_tup3, fNotN_at, fIsN_at, List.getElem?_cons_succ, List.getElem?_cons_zero, s_par3, s_lc, fCut_at, fAdd_lst, fAdd_tup, fList_lst, fList_tup, fTuple_lst, fMul_lst, items_lst, items_tup, range2_at, zip_at, s_body, s_seq, s_next, s_onE, s_onT, s_asg, s_par, s_for, s_raise, s_try, s_asgG, w_bind, w_pure, w_need, w_fail, w_calm, g_0, g_s, fEq_int, fNe_int, fEq_str, fNe_str, fInt_at, fInt0_at, fAdd_int, fCmp_at, fNeg_at, fLen_tup, fLen_lst, fIx_t0, fIx_l0, fIx_t1, fIx_l1, fIntC_at, fAbs_at, fGcd_at, fRepr_at, fBits_at, fIs_at, range_at, List.map_cons, List.map_nil, List.length_cons, List.length_nil, List.cons_append, List.nil_append, List.set_cons_zero, List.set_cons_succ, List.replicate, Nat.reduceAdd, Nat.reduceSub, List.append_nil, dName, true_and, and_true, Nat.zero_add, Nat.sub_self]
              have ei : es[i]? = some (dT i q.2) := by rw [e3, rL_succ, List.append_assoc, List.getElem?_append_right (by rw [rL_len]; exact Nat.le_refl _), rL_len, Nat.sub_self]; rfl
              have ec : cutD es none (some (i : Int)) = rL i q.1 := by
                rw [cut_head (by omega), e3, rL_succ, List.append_assoc, List.take_append_of_le_length (by rw [rL_len]; exact Nat.le_refl _), List.take_of_length_le (by rw [rL_len]; exact Nat.le_refl _)]
              rw [fIx_t (atI_of ei)]
              refine ⟨i, _, rfl, ⟨by omega, item _ (List.mem_of_getElem? ei)⟩, ?_⟩
              rw [isPl_T]
              try simp only [cut_last, fIx_last, dT_succ, lsub, rL_succ, rL_len, List.length_append, rD, g_tup2, g_tup3, fNotN_at, fIsN_at, List.getElem?_cons_succ, List.getElem?_cons_zero, s_par3, s_lc, fCut_at, fAdd_lst, fAdd_tup, fList_lst, fList_tup, fTuple_lst, fMul_lst, items_lst, items_tup, range2_at, zip_at, s_body, s_seq, s_next, s_onE, s_onT, s_asg, s_par, s_for, s_raise, s_try, s_asgG, w_bind, w_pure, w_need, w_fail, w_calm, g_0, g_s, fEq_int, fNe_int, fEq_str, fNe_str, fInt_at, fInt0_at, fAdd_int, fCmp_at, fNeg_at, fLen_tup, fLen_lst, fIx_t0, fIx_l0, fIx_t1, fIx_l1, fIntC_at, fAbs_at, fGcd_at, fRepr_at, fBits_at, fIs_at, range_at, List.map_cons, List.map_nil, List.length_cons, List.length_nil, List.cons_append, List.nil_append, List.set_cons_zero, List.set_cons_succ, List.replicate, Nat.reduceAdd, Nat.reduceSub, List.append_nil, dName, true_and, and_true, Nat.zero_add, Nat.sub_self]
              rw [w_ite]
              refine ifF (by simp) ?_
              try simp only [cut_last, fIx_last, dT_succ, lsub, rL_succ, rL_len, List.length_append, rD, g_tup2, g_tup3, fNotN_at, fIsN_at, List.getElem?_cons_succ, List.getElem?_cons_zero, s_par3, s_lc, fCut_at, fAdd_lst, fAdd_tup, fList_lst, fList_tup, fTuple_lst, fMul_lst, items_lst, items_tup, range2_at, zip_at, s_body, s_seq, s_next, s_onE, s_onT, s_asg, s_par, s_for, s_raise, s_try, s_asgG, w_bind, w_pure, w_need, w_fail, w_calm, g_0, g_s, fEq_int, fNe_int, fEq_str, fNe_str, fInt_at, fInt0_at, fAdd_int, fCmp_at, fNeg_at, fLen_tup, fLen_lst, fIx_t0, fIx_l0, fIx_t1, fIx_l1, fIntC_at, fAbs_at, fGcd_at, fRepr_at, fBits_at, fIs_at, range_at, List.map_cons, List.map_nil, List.length_cons, List.length_nil, List.cons_append, List.nil_append, List.set_cons_zero, List.set_cons_succ, List.replicate, Nat.reduceAdd, Nat.reduceSub, List.append_nil, dName, true_and, and_true, Nat.zero_add, Nat.sub_self]
              rw [fIx_t (atI_of ei), ec]
              try simp only [cut_last, fIx_last, dT_succ, lsub, rL_succ, rL_len, List.length_append, rD, g_tup2, g_tup3, fNotN_at, fIsN_at, List.getElem?_cons_succ, List.getElem?_cons_zero, s_par3, s_lc, fCut_at, fAdd_lst, fAdd_tup, fList_lst, fList_tup, fTuple_lst, fMul_lst, items_lst, items_tup, range2_at, zip_at, s_body, s_seq, s_next, s_onE, s_onT, s_asg, s_par, s_for, s_raise, s_try, s_asgG, w_bind, w_pure, w_need, w_fail, w_calm, g_0, g_s, fEq_int, fNe_int, fEq_str, fNe_str, fInt_at, fInt0_at, fAdd_int, fCmp_at, fNeg_at, fLen_tup, fLen_lst, fIx_t0, fIx_l0, fIx_t1, fIx_l1, fIntC_at, fAbs_at, fGcd_at, fRepr_at, fBits_at, fIs_at, range_at, List.map_cons, List.map_nil, List.length_cons, List.length_nil, List.cons_append, List.nil_append, List.set_cons_zero, List.set_cons_succ, List.replicate, Nat.reduceAdd, Nat.reduceSub, List.append_nil, dName, true_and, and_true, Nat.zero_add, Nat.sub_self]
              refine ⟨i, q.1, q.2, rfl, ⟨by omega, by omega, b3.1, b3.2.mono (capP3 i)⟩, ?_⟩
              rw [goodR_succ g3, optT_none]
              try simp only [cut_last, fIx_last, dT_succ, lsub, rL_succ, rL_len, List.length_append, rD, g_tup2, g_tup3, fNotN_at, fIsN_at, List.getElem?_cons_succ, List.getElem?_cons_zero, s_par3, s_lc, fCut_at, fAdd_lst, fAdd_tup, fList_lst, fList_tup, fTuple_lst, fMul_lst, items_lst, items_tup, range2_at, zip_at, s_body, s_seq, s_next, s_onE, s_onT, s_asg, s_par, s_for, s_raise, s_try, s_asgG, w_bind, w_pure, w_need, w_fail, w_calm, g_0, g_s, fEq_int, fNe_int, fEq_str, fNe_str, fInt_at, fInt0_at, fAdd_int, fCmp_at, fNeg_at, fLen_tup, fLen_lst, fIx_t0, fIx_l0, fIx_t1, fIx_l1, fIntC_at, fAbs_at, fGcd_at, fRepr_at, fBits_at, fIs_at, range_at, List.map_cons, List.map_nil, List.length_cons, List.length_nil, List.cons_append, List.nil_append, List.set_cons_zero, List.set_cons_succ, List.replicate, Nat.reduceAdd, Nat.reduceSub, List.append_nil, dName, true_and, and_true, Nat.zero_add, Nat.sub_self]
              refine ifF (by simp [nonB]) ?_
              exact hnx _ _ ⟨rfl, hlt, _, rfl⟩
            · obtain rfl : i = l := by omega
              simp only [cut_last, fIx_last, dT_succ, lsub, rL_succ, rL_len, List.length_append, rD, g_tup2, g_tup3, fNotN_at, fIsN_at, List.getElem?_cons_succ, List.getElem?_cons_zero, s_par3, s_lc, fCut_at, fAdd_lst, fAdd_tup, fList_lst, fList_tup, fTuple_lst, fMul_lst, items_lst, items_tup, range2_at, zip_at, s_body, s_seq, s_next, s_onE, s_onT, s_asg, s_par, s_for, s_raise, s_try, s_asgG, w_bind, w_pure, w_need, w_fail, w_calm, g_0, g_s, fEq_int, fNe_int, fEq_str, fNe_str, fInt_at, fInt0_at, fAdd_int, fCmp_at, fNeg_at, fLen_tup, fLen_lst, fIx_t0, fIx_l0, fIx_t1, fIx_l1, fIntC_at, fAbs_at, fGcd_at, fRepr_at, fBits_at, fIs_at, range_at, List.map_cons, List.map_nil, List.length_cons, List.length_nil, List.cons_append, List.nil_append, List.set_cons_zero, List.set_cons_succ, List.replicate, Nat.reduceAdd, Nat.reduceSub, List.append_nil, dName, true_and, and_true, Nat.zero_add, Nat.sub_self]
              have ei : es[i]? = some bad := by rw [e2, List.getElem?_append_right (by rw [rL_len]; exact Nat.le_refl _), rL_len, Nat.sub_self]; rfl
              have ec : cutD es none (some (i : Int)) = rL i r := by
                rw [cut_head (by omega), e2, List.take_append_of_le_length (by rw [rL_len]; exact Nat.le_refl _), List.take_of_length_le (by rw [rL_len]; exact Nat.le_refl _)]
              rw [fIx_t (atI_of ei)]
              refine ⟨i, _, rfl, ⟨by omega, item _ (List.mem_of_getElem? ei)⟩, ?_⟩
              rw [hex]
              rcases hbad with hp | ⟨x, rfl, hx, hs⟩
              · rw [hp]
                try simp only [cut_last, fIx_last, dT_succ, lsub, rL_succ, rL_len, List.length_append, rD, g_tup2, g_tup3, fNotN_at, fIsN_at, List.getElem?_cons_succ, List.getElem?_cons_zero, s_par3, s_lc, fCut_at, fAdd_lst, fAdd_tup, fList_lst, fList_tup, fTuple_lst, fMul_lst, items_lst, items_tup, range2_at, zip_at, s_body, s_seq, s_next, s_onE, s_onT, s_asg, s_par, s_for, s_raise, s_try, s_asgG, w_bind, w_pure, w_need, w_fail, w_calm, g_0, g_s, fEq_int, fNe_int, fEq_str, fNe_str, fInt_at, fInt0_at, fAdd_int, fCmp_at, fNeg_at, fLen_tup, fLen_lst, fIx_t0, fIx_l0, fIx_t1, fIx_l1, fIntC_at, fAbs_at, fGcd_at, fRepr_at, fBits_at, fIs_at, range_at, List.map_cons, List.map_nil, List.length_cons, List.length_nil, List.cons_append, List.nil_append, List.set_cons_zero, List.set_cons_succ, List.replicate, Nat.reduceAdd, Nat.reduceSub, List.append_nil, dName, true_and, and_true, Nat.zero_add, Nat.sub_self]
                rw [w_ite]
                refine ifT (by simp) ?_
                try simp only [cut_last, fIx_last, dT_succ, lsub, rL_succ, rL_len, List.length_append, rD, g_tup2, g_tup3, fNotN_at, fIsN_at, List.getElem?_cons_succ, List.getElem?_cons_zero, s_par3, s_lc, fCut_at, fAdd_lst, fAdd_tup, fList_lst, fList_tup, fTuple_lst, fMul_lst, items_lst, items_tup, range2_at, zip_at, s_body, s_seq, s_next, s_onE, s_onT, s_asg, s_par, s_for, s_raise, s_try, s_asgG, w_bind, w_pure, w_need, w_fail, w_calm, g_0, g_s, fEq_int, fNe_int, fEq_str, fNe_str, fInt_at, fInt0_at, fAdd_int, fCmp_at, fNeg_at, fLen_tup, fLen_lst, fIx_t0, fIx_l0, fIx_t1, fIx_l1, fIntC_at, fAbs_at, fGcd_at, fRepr_at, fBits_at, fIs_at, range_at, List.map_cons, List.map_nil, List.length_cons, List.length_nil, List.cons_append, List.nil_append, List.set_cons_zero, List.set_cons_succ, List.replicate, Nat.reduceAdd, Nat.reduceSub, List.append_nil, dName, true_and, and_true, Nat.zero_add, Nat.sub_self]
                first | exact ifT rfl hk | exact ifT (by simp) hk
              · rw [isPl_T]
                try simp only [cut_last, fIx_last, dT_succ, lsub, rL_succ, rL_len, List.length_append, rD, g_tup2, g_tup3, fNotN_at, fIsN_at, List.getElem?_cons_succ, List.getElem?_cons_zero, s_par3, s_lc, fCut_at, fAdd_lst, fAdd_tup, fList_lst, fList_tup, fTuple_lst, fMul_lst, items_lst, items_tup, range2_at, zip_at, s_body, s_seq, s_next, s_onE, s_onT, s_asg, s_par, s_for, s_raise, s_try, s_asgG, w_bind, w_pure, w_need, w_fail, w_calm, g_0, g_s, fEq_int, fNe_int, fEq_str, fNe_str, fInt_at, fInt0_at, fAdd_int, fCmp_at, fNeg_at, fLen_tup, fLen_lst, fIx_t0, fIx_l0, fIx_t1, fIx_l1, fIntC_at, fAbs_at, fGcd_at, fRepr_at, fBits_at, fIs_at, range_at, List.map_cons, List.map_nil, List.length_cons, List.length_nil, List.cons_append, List.nil_append, List.set_cons_zero, List.set_cons_succ, List.replicate, Nat.reduceAdd, Nat.reduceSub, List.append_nil, dName, true_and, and_true, Nat.zero_add, Nat.sub_self]
                rw [w_ite]
                refine ifF (by simp) ?_
                try simp only [cut_last, fIx_last, dT_succ, lsub, rL_succ, rL_len, List.length_append, rD, g_tup2, g_tup3, fNotN_at, fIsN_at, List.getElem?_cons_succ, List.getElem?_cons_zero, s_par3, s_lc, fCut_at, fAdd_lst, fAdd_tup, fList_lst, fList_tup, fTuple_lst, fMul_lst, items_lst, items_tup, range2_at, zip_at, s_body, s_seq, s_next, s_onE, s_onT, s_asg, s_par, s_for, s_raise, s_try, s_asgG, w_bind, w_pure, w_need, w_fail, w_calm, g_0, g_s, fEq_int, fNe_int, fEq_str, fNe_str, fInt_at, fInt0_at, fAdd_int, fCmp_at, fNeg_at, fLen_tup, fLen_lst, fIx_t0, fIx_l0, fIx_t1, fIx_l1, fIntC_at, fAbs_at, fGcd_at, fRepr_at, fBits_at, fIs_at, range_at, List.map_cons, List.map_nil, List.length_cons, List.length_nil, List.cons_append, List.nil_append, List.set_cons_zero, List.set_cons_succ, List.replicate, Nat.reduceAdd, Nat.reduceSub, List.append_nil, dName, true_and, and_true, Nat.zero_add, Nat.sub_self]
                rw [fIx_t (atI_of ei), ec]
                try simp only [cut_last, fIx_last, dT_succ, lsub, rL_succ, rL_len, List.length_append, rD, g_tup2, g_tup3, fNotN_at, fIsN_at, List.getElem?_cons_succ, List.getElem?_cons_zero, s_par3, s_lc, fCut_at, fAdd_lst, fAdd_tup, fList_lst, fList_tup, fTuple_lst, fMul_lst, items_lst, items_tup, range2_at, zip_at, s_body, s_seq, s_next, s_onE, s_onT, s_asg, s_par, s_for, s_raise, s_try, s_asgG, w_bind, w_pure, w_need, w_fail, w_calm, g_0, g_s, fEq_int, fNe_int, fEq_str, fNe_str, fInt_at, fInt0_at, fAdd_int, fCmp_at, fNeg_at, fLen_tup, fLen_lst, fIx_t0, fIx_l0, fIx_t1, fIx_l1, fIntC_at, fAbs_at, fGcd_at, fRepr_at, fBits_at, fIs_at, range_at, List.map_cons, List.map_nil, List.length_cons, List.length_nil, List.cons_append, List.nil_append, List.set_cons_zero, List.set_cons_succ, List.replicate, Nat.reduceAdd, Nat.reduceSub, List.append_nil, dName, true_and, and_true, Nat.zero_add, Nat.sub_self]
                refine ⟨i, r, x, rfl, ⟨by omega, by omega, hrb, hx.mono (capP3 i)⟩, ?_⟩
                obtain ⟨g, hg'⟩ := Option.isSome_iff_exists.mp hs
                rw [hg', optT_some]
                try simp only [cut_last, fIx_last, dT_succ, lsub, rL_succ, rL_len, List.length_append, rD, g_tup2, g_tup3, fNotN_at, fIsN_at, List.getElem?_cons_succ, List.getElem?_cons_zero, s_par3, s_lc, fCut_at, fAdd_lst, fAdd_tup, fList_lst, fList_tup, fTuple_lst, fMul_lst, items_lst, items_tup, range2_at, zip_at, s_body, s_seq, s_next, s_onE, s_onT, s_asg, s_par, s_for, s_raise, s_try, s_asgG, w_bind, w_pure, w_need, w_fail, w_calm, g_0, g_s, fEq_int, fNe_int, fEq_str, fNe_str, fInt_at, fInt0_at, fAdd_int, fCmp_at, fNeg_at, fLen_tup, fLen_lst, fIx_t0, fIx_l0, fIx_t1, fIx_l1, fIntC_at, fAbs_at, fGcd_at, fRepr_at, fBits_at, fIs_at, range_at, List.map_cons, List.map_nil, List.length_cons, List.length_nil, List.cons_append, List.nil_append, List.set_cons_zero, List.set_cons_succ, List.replicate, Nat.reduceAdd, Nat.reduceSub, List.append_nil, dName, true_and, and_true, Nat.zero_add, Nat.sub_self]
                refine ifT (by simp [nonB]) ?_
                try simp only [cut_last, fIx_last, dT_succ, lsub, rL_succ, rL_len, List.length_append, rD, g_tup2, g_tup3, fNotN_at, fIsN_at, List.getElem?_cons_succ, List.getElem?_cons_zero, s_par3, s_lc, fCut_at, fAdd_lst, fAdd_tup, fList_lst, fList_tup, fTuple_lst, fMul_lst, items_lst, items_tup, range2_at, zip_at, s_body, s_seq, s_next, s_onE, s_onT, s_asg, s_par, s_for, s_raise, s_try, s_asgG, w_bind, w_pure, w_need, w_fail, w_calm, g_0, g_s, fEq_int, fNe_int, fEq_str, fNe_str, fInt_at, fInt0_at, fAdd_int, fCmp_at, fNeg_at, fLen_tup, fLen_lst, fIx_t0, fIx_l0, fIx_t1, fIx_l1, fIntC_at, fAbs_at, fGcd_at, fRepr_at, fBits_at, fIs_at, range_at, List.map_cons, List.map_nil, List.length_cons, List.length_nil, List.cons_append, List.nil_append, List.set_cons_zero, List.set_cons_succ, List.replicate, Nat.reduceAdd, Nat.reduceSub, List.append_nil, dName, true_and, and_true, Nat.zero_add, Nat.sub_self]
                exact hk
  · refine ifT (by simpa using hb) ?_
    try simp only [cut_last, fIx_last, dT_succ, lsub, rL_succ, rL_len, List.length_append, rD, g_tup2, g_tup3, fNotN_at, fIsN_at, List.getElem?_cons_succ, List.getElem?_cons_zero, s_par3, s_lc, fCut_at, fAdd_lst, fAdd_tup, fList_lst, fList_tup, fTuple_lst, fMul_lst, items_lst, items_tup, range2_at, zip_at, s_body, s_seq, s_next, s_onE, s_onT, s_asg, s_par, s_for, s_raise, s_try, s_asgG, w_bind, w_pure, w_need, w_fail, w_calm, g_0, g_s, fEq_int, fNe_int, fEq_str, fNe_str, fInt_at, fInt0_at, fAdd_int, fCmp_at, fNeg_at, fLen_tup, fLen_lst, fIx_t0, fIx_l0, fIx_t1, fIx_l1, fIntC_at, fAbs_at, fGcd_at, fRepr_at, fBits_at, fIs_at, range_at, List.map_cons, List.map_nil, List.length_cons, List.length_nil, List.cons_append, List.nil_append, List.set_cons_zero, List.set_cons_succ, List.replicate, Nat.reduceAdd, Nat.reduceSub, List.append_nil, dName, true_and, and_true, Nat.zero_add, Nat.sub_self]
    refine ifT (by simp) ?_
    rcases h with ⟨l, r, ⟨e1, l3, hrb, hg⟩, hk⟩ | ⟨no, hk⟩
    · rw [e1] at hb
      exact absurd rfl hb
    · exact hk


theorem ok_plain_from  (F : DefF K mg "plain_from" s_plain_from ["level", "number"]) (h_is_plain : DefG P w K mg base "is_plain" ["level", "value"] (2) w_is_plain) (e_BadRow : ErrG P w K mg base "BadRow" C_BadRow fs_BadRow 1) (h_in_tuples : DefG P w K mg base "in_tuples" ["value"] (7) (w_in_tuples 6)) : DefG P w K mg base "plain_from" ["level", "number"] (7 + 1) (w_plain_from C_BadRow) := by
  obtain ⟨f_is_plain, d_is_plain, G_is_plain, n_is_plain, q_is_plain, b_is_plain⟩ := h_is_plain.ex
  obtain ⟨fi_BadRow, fd_BadRow, ps_BadRow, T_BadRow, i_BadRow, t_BadRow, F_BadRow, B_BadRow, g_BadRow⟩ := e_BadRow.ex
  obtain ⟨f_in_tuples, d_in_tuples, G_in_tuples, n_in_tuples, q_in_tuples, b_in_tuples⟩ := h_in_tuples.ex
  refine def_ok (k := 7) F sc_plain_from (fun f cdv A outer s H E hg hr => (DSs.cons (DS.set (k := 2) (fun _ => sc_plain_from.nd) (fun _ => rfl) (fun _ => (.inl rfl)) (DE.call (fun _ => G_in_tuples) (fun _ => hg) (fun _ => hr.mono (by omega)) (fun _ => takes_of rfl rfl rfl rfl) (fun _ => by rfl) (fun _ => n_in_tuples) (fun _ => q_in_tuples) (fun _ => b_in_tuples) (DA.cons (DE.var fun _ => pv 1) DA.nil)))
    (DSs.cons (DS.ifS (DT.not (DT.val (DE.call (fun _ => G_is_plain) (fun _ => hg) (fun _ => hr.mono (by omega)) (fun _ => takes_of rfl rfl rfl rfl) (fun _ => by rfl) (fun _ => n_is_plain) (fun _ => q_is_plain) (fun _ => b_is_plain) (DA.cons (DE.var fun _ => pv 0) (DA.cons (DE.var fun _ => pv 2) DA.nil))))) (DSs.one (DS.raise (fun _ => rfl) (fun _ => takes_of rfl rfl rfl rfl) (fun _ => T_BadRow) (by simp) (by simp) (fun _ => i_BadRow) (fun _ => t_BadRow) (fun _ => F_BadRow) (fun _ => hr.mono (by omega)) (fun _ => B_BadRow) (fun _ => by rfl) (fun _ => g_BadRow) (DA.cons (DE.var fun _ => pv 1) DA.nil))) DSs.nil)
    (DSs.one (DS.ret (DE.var fun _ => pv 2)))))) fun ds Kd Kx n hl h => ?_
  obtain ⟨l, d, rfl, ⟨hl3, hd⟩, h⟩ := h
  simp only [cut_last, fIx_last, dT_succ, lsub, rL_succ, rL_len, List.length_append, rD, g_tup2, g_tup3, fNotN_at, fIsN_at, List.getElem?_cons_succ, List.getElem?_cons_zero, s_par3, s_lc, fCut_at, fAdd_lst, fAdd_tup, fList_lst, fList_tup, fTuple_lst, fMul_lst, items_lst, items_tup, range2_at, zip_at, s_body, s_seq, s_next, s_onE, s_onT, s_asg, s_par, s_for, s_raise, s_try, s_asgG, w_bind, w_pure, w_need, w_fail, w_calm, g_0, g_s, fEq_int, fNe_int, fEq_str, fNe_str, fInt_at, fInt0_at, fAdd_int, fCmp_at, fNeg_at, fLen_tup, fLen_lst, fIx_t0, fIx_l0, fIx_t1, fIx_l1, fIntC_at, fAbs_at, fGcd_at, fRepr_at, fBits_at, fIs_at, range_at, List.map_cons, List.map_nil, List.length_cons, List.length_nil, List.cons_append, List.nil_append, List.set_cons_zero, List.set_cons_succ, List.replicate, Nat.reduceAdd, Nat.reduceSub, List.append_nil, dName, true_and, and_true, Nat.zero_add, Nat.sub_self]
  refine ⟨hd, l, _, rfl, ⟨hl3, okDp_tupled hd⟩, ?_⟩
  by_cases hp : isPl l (tupled d) = true
  · rw [if_pos hp] at h
    refine ifF (by simp [hp]) ?_
    exact h
  · rw [if_neg hp] at h
    refine ifT (by simpa using hp) ?_
    exact h


theorem ok_grid_product  (F : DefF K mg "grid_product" s_grid_product ["roots", "one", "other"]) (h_product_plain : DefG P w K mg base "product_plain" ["roots", "one", "other"] (8) (w_product_plain 4)) (h_plain_from : DefG P w K mg base "plain_from" ["level", "number"] (8) (w_plain_from C_BadRow)) (m_len : mg "len" = none) (h_roots_from : DefG P w K mg base "roots_from" ["roots"] (16) (w_roots_from C_BadRow)) : DefG P w K mg base "grid_product" ["roots", "one", "other"] (16 + 1) (w_grid_product C_BadRow) := by
  obtain ⟨f_product_plain, d_product_plain, G_product_plain, n_product_plain, q_product_plain, b_product_plain⟩ := h_product_plain.ex
  obtain ⟨f_plain_from, d_plain_from, G_plain_from, n_plain_from, q_plain_from, b_plain_from⟩ := h_plain_from.ex
  obtain ⟨f_roots_from, d_roots_from, G_roots_from, n_roots_from, q_roots_from, b_roots_from⟩ := h_roots_from.ex
  refine def_ok (k := 16) F sc_grid_product (fun f cdv A outer s H E hg hr => (DSs.cons (DS.set (k := 3) (fun _ => sc_grid_product.nd) (fun _ => rfl) (fun _ => (.inl rfl)) (DE.call (fun _ => G_roots_from) (fun _ => hg) (fun _ => hr.mono (by omega)) (fun _ => takes_of rfl rfl rfl rfl) (fun _ => by rfl) (fun _ => n_roots_from) (fun _ => q_roots_from) (fun _ => b_roots_from) (DA.cons (DE.var fun _ => pv 0) DA.nil)))
    (DSs.cons (DS.set (k := 4) (fun _ => sc_grid_product.nd) (fun _ => rfl) (fun _ => (.inl rfl)) (DE.call (fun _ => G_plain_from) (fun _ => hg) (fun _ => hr.mono (by omega)) (fun _ => takes_of rfl rfl rfl rfl) (fun _ => by rfl) (fun _ => n_plain_from) (fun _ => q_plain_from) (fun _ => b_plain_from) (DA.cons (DE.opL (fun _ _ ha => pe_callB call_lenA (by rfl) m_len (by decide +kernel) ha) sem_len (DA.cons (DE.var fun _ => pv 3) DA.nil)) (DA.cons (DE.var fun _ => pv 1) DA.nil))))
    (DSs.one (DS.ret (DE.call (fun _ => G_product_plain) (fun _ => hg) (fun _ => hr.mono (by omega)) (fun _ => takes_of rfl rfl rfl rfl) (fun _ => by rfl) (fun _ => n_product_plain) (fun _ => q_product_plain) (fun _ => b_product_plain) (DA.cons (DE.var fun _ => pv 3) (DA.cons (DE.var fun _ => pv 4) (DA.cons (DE.call (fun _ => G_plain_from) (fun _ => hg) (fun _ => hr.mono (by omega)) (fun _ => takes_of rfl rfl rfl rfl) (fun _ => by rfl) (fun _ => n_plain_from) (fun _ => q_plain_from) (fun _ => b_plain_from) (DA.cons (DE.opL (fun _ _ ha => pe_callB call_lenA (by rfl) m_len (by decide +kernel) ha) sem_len (DA.cons (DE.var fun _ => pv 3) DA.nil)) (DA.cons (DE.var fun _ => pv 2) DA.nil))) DA.nil))))))))) fun ds Kd Kx n hl h => ?_
  obtain ⟨rs, a, b, rfl, hr, ha, hb, h⟩ := h
  simp only [cut_last, fIx_last, dT_succ, lsub, rL_succ, rL_len, List.length_append, rD, g_tup2, g_tup3, fNotN_at, fIsN_at, List.getElem?_cons_succ, List.getElem?_cons_zero, s_par3, s_lc, fCut_at, fAdd_lst, fAdd_tup, fList_lst, fList_tup, fTuple_lst, fMul_lst, items_lst, items_tup, range2_at, zip_at, s_body, s_seq, s_next, s_onE, s_onT, s_asg, s_par, s_for, s_raise, s_try, s_asgG, w_bind, w_pure, w_need, w_fail, w_calm, g_0, g_s, fEq_int, fNe_int, fEq_str, fNe_str, fInt_at, fInt0_at, fAdd_int, fCmp_at, fNeg_at, fLen_tup, fLen_lst, fIx_t0, fIx_l0, fIx_t1, fIx_l1, fIntC_at, fAbs_at, fGcd_at, fRepr_at, fBits_at, fIs_at, range_at, List.map_cons, List.map_nil, List.length_cons, List.length_nil, List.cons_append, List.nil_append, List.set_cons_zero, List.set_cons_succ, List.replicate, Nat.reduceAdd, Nat.reduceSub, List.append_nil, dName, true_and, and_true, Nat.zero_add, Nat.sub_self]
  rcases h with ⟨l, r, x, y, ok, ea, eb, ⟨p, hp, hx, hy⟩, hk⟩ | ⟨l, r, x, ok, ea, eb, hk⟩ | ⟨l, r, ok, ea, hk⟩ | ⟨no, hk⟩
  · refine ⟨rs, rfl, hr, .inl ⟨l, r, ok, ?_⟩⟩
    obtain ⟨_, h3, hrb, _⟩ := ok
    simp only [cut_last, fIx_last, dT_succ, lsub, rL_succ, rL_len, List.length_append, rD, g_tup2, g_tup3, fNotN_at, fIsN_at, List.getElem?_cons_succ, List.getElem?_cons_zero, s_par3, s_lc, fCut_at, fAdd_lst, fAdd_tup, fList_lst, fList_tup, fTuple_lst, fMul_lst, items_lst, items_tup, range2_at, zip_at, s_body, s_seq, s_next, s_onE, s_onT, s_asg, s_par, s_for, s_raise, s_try, s_asgG, w_bind, w_pure, w_need, w_fail, w_calm, g_0, g_s, fEq_int, fNe_int, fEq_str, fNe_str, fInt_at, fInt0_at, fAdd_int, fCmp_at, fNeg_at, fLen_tup, fLen_lst, fIx_t0, fIx_l0, fIx_t1, fIx_l1, fIntC_at, fAbs_at, fGcd_at, fRepr_at, fBits_at, fIs_at, range_at, List.map_cons, List.map_nil, List.length_cons, List.length_nil, List.cons_append, List.nil_append, List.set_cons_zero, List.set_cons_succ, List.replicate, Nat.reduceAdd, Nat.reduceSub, List.append_nil, dName, true_and, and_true, Nat.zero_add, Nat.sub_self]
    refine ⟨l, a, rfl, ⟨h3, ha⟩, ?_⟩
    rw [ea, if_pos (isPl_T l x)]
    refine ⟨l, b, rfl, ⟨h3, hb⟩, ?_⟩
    rw [eb, if_pos (isPl_T l y)]
    exact ⟨l, r, x, y, p, p, rfl, ⟨by omega, h3, hrb, hx, hy, by have : cc l ≤ 28 := cc3 h3; omega⟩, hk⟩
  · refine ⟨rs, rfl, hr, .inl ⟨l, r, ok, ?_⟩⟩
    obtain ⟨_, h3, hrb, _⟩ := ok
    simp only [cut_last, fIx_last, dT_succ, lsub, rL_succ, rL_len, List.length_append, rD, g_tup2, g_tup3, fNotN_at, fIsN_at, List.getElem?_cons_succ, List.getElem?_cons_zero, s_par3, s_lc, fCut_at, fAdd_lst, fAdd_tup, fList_lst, fList_tup, fTuple_lst, fMul_lst, items_lst, items_tup, range2_at, zip_at, s_body, s_seq, s_next, s_onE, s_onT, s_asg, s_par, s_for, s_raise, s_try, s_asgG, w_bind, w_pure, w_need, w_fail, w_calm, g_0, g_s, fEq_int, fNe_int, fEq_str, fNe_str, fInt_at, fInt0_at, fAdd_int, fCmp_at, fNeg_at, fLen_tup, fLen_lst, fIx_t0, fIx_l0, fIx_t1, fIx_l1, fIntC_at, fAbs_at, fGcd_at, fRepr_at, fBits_at, fIs_at, range_at, List.map_cons, List.map_nil, List.length_cons, List.length_nil, List.cons_append, List.nil_append, List.set_cons_zero, List.set_cons_succ, List.replicate, Nat.reduceAdd, Nat.reduceSub, List.append_nil, dName, true_and, and_true, Nat.zero_add, Nat.sub_self]
    refine ⟨l, a, rfl, ⟨h3, ha⟩, ?_⟩
    rw [ea, if_pos (isPl_T l x)]
    refine ⟨l, b, rfl, ⟨h3, hb⟩, ?_⟩
    rw [eb, if_neg Bool.false_ne_true]
    exact hk
  · refine ⟨rs, rfl, hr, .inl ⟨l, r, ok, ?_⟩⟩
    obtain ⟨_, h3, hrb, _⟩ := ok
    simp only [cut_last, fIx_last, dT_succ, lsub, rL_succ, rL_len, List.length_append, rD, g_tup2, g_tup3, fNotN_at, fIsN_at, List.getElem?_cons_succ, List.getElem?_cons_zero, s_par3, s_lc, fCut_at, fAdd_lst, fAdd_tup, fList_lst, fList_tup, fTuple_lst, fMul_lst, items_lst, items_tup, range2_at, zip_at, s_body, s_seq, s_next, s_onE, s_onT, s_asg, s_par, s_for, s_raise, s_try, s_asgG, w_bind, w_pure, w_need, w_fail, w_calm, g_0, g_s, fEq_int, fNe_int, fEq_str, fNe_str, fInt_at, fInt0_at, fAdd_int, fCmp_at, fNeg_at, fLen_tup, fLen_lst, fIx_t0, fIx_l0, fIx_t1, fIx_l1, fIntC_at, fAbs_at, fGcd_at, fRepr_at, fBits_at, fIs_at, range_at, List.map_cons, List.map_nil, List.length_cons, List.length_nil, List.cons_append, List.nil_append, List.set_cons_zero, List.set_cons_succ, List.replicate, Nat.reduceAdd, Nat.reduceSub, List.append_nil, dName, true_and, and_true, Nat.zero_add, Nat.sub_self]
    refine ⟨l, a, rfl, ⟨h3, ha⟩, ?_⟩
    rw [ea, if_neg Bool.false_ne_true]
    exact hk
  · exact ⟨rs, rfl, hr, .inr ⟨no, hk⟩⟩


theorem ok_grid_root  (F : DefF K mg "grid_root" s_grid_root ["roots", "number"]) (h_root_in : DefG P w K mg base "root_in" ["roots", "number"] (15) (w_root_in 3)) (h_plain_from : DefG P w K mg base "plain_from" ["level", "number"] (8) (w_plain_from C_BadRow)) (m_len : mg "len" = none) (h_roots_from : DefG P w K mg base "roots_from" ["roots"] (16) (w_roots_from C_BadRow)) : DefG P w K mg base "grid_root" ["roots", "number"] (16 + 1) (w_grid_root C_BadRow) := by
  obtain ⟨f_root_in, d_root_in, G_root_in, n_root_in, q_root_in, b_root_in⟩ := h_root_in.ex
  obtain ⟨f_plain_from, d_plain_from, G_plain_from, n_plain_from, q_plain_from, b_plain_from⟩ := h_plain_from.ex
  obtain ⟨f_roots_from, d_roots_from, G_roots_from, n_roots_from, q_roots_from, b_roots_from⟩ := h_roots_from.ex
  refine def_ok (k := 16) F sc_grid_root (fun f cdv A outer s H E hg hr => (DSs.cons (DS.set (k := 2) (fun _ => sc_grid_root.nd) (fun _ => rfl) (fun _ => (.inl rfl)) (DE.call (fun _ => G_roots_from) (fun _ => hg) (fun _ => hr.mono (by omega)) (fun _ => takes_of rfl rfl rfl rfl) (fun _ => by rfl) (fun _ => n_roots_from) (fun _ => q_roots_from) (fun _ => b_roots_from) (DA.cons (DE.var fun _ => pv 0) DA.nil)))
    (DSs.one (DS.ret (DE.call (fun _ => G_root_in) (fun _ => hg) (fun _ => hr.mono (by omega)) (fun _ => takes_of rfl rfl rfl rfl) (fun _ => by rfl) (fun _ => n_root_in) (fun _ => q_root_in) (fun _ => b_root_in) (DA.cons (DE.var fun _ => pv 2) (DA.cons (DE.call (fun _ => G_plain_from) (fun _ => hg) (fun _ => hr.mono (by omega)) (fun _ => takes_of rfl rfl rfl rfl) (fun _ => by rfl) (fun _ => n_plain_from) (fun _ => q_plain_from) (fun _ => b_plain_from) (DA.cons (DE.opL (fun _ _ ha => pe_callB call_lenA (by rfl) m_len (by decide +kernel) ha) sem_len (DA.cons (DE.var fun _ => pv 2) DA.nil)) (DA.cons (DE.var fun _ => pv 1) DA.nil))) DA.nil))))))) fun ds Kd Kx n hl h => ?_
  obtain ⟨rs, x, rfl, hr, hx, h⟩ := h
  simp only [cut_last, fIx_last, dT_succ, lsub, rL_succ, rL_len, List.length_append, rD, g_tup2, g_tup3, fNotN_at, fIsN_at, List.getElem?_cons_succ, List.getElem?_cons_zero, s_par3, s_lc, fCut_at, fAdd_lst, fAdd_tup, fList_lst, fList_tup, fTuple_lst, fMul_lst, items_lst, items_tup, range2_at, zip_at, s_body, s_seq, s_next, s_onE, s_onT, s_asg, s_par, s_for, s_raise, s_try, s_asgG, w_bind, w_pure, w_need, w_fail, w_calm, g_0, g_s, fEq_int, fNe_int, fEq_str, fNe_str, fInt_at, fInt0_at, fAdd_int, fCmp_at, fNeg_at, fLen_tup, fLen_lst, fIx_t0, fIx_l0, fIx_t1, fIx_l1, fIntC_at, fAbs_at, fGcd_at, fRepr_at, fBits_at, fIs_at, range_at, List.map_cons, List.map_nil, List.length_cons, List.length_nil, List.cons_append, List.nil_append, List.set_cons_zero, List.set_cons_succ, List.replicate, Nat.reduceAdd, Nat.reduceSub, List.append_nil, dName, true_and, and_true, Nat.zero_add, Nat.sub_self]
  rcases h with ⟨l, r, y, ok, l2, ex, hb, hk⟩ | ⟨l, r, ok, ex, hk⟩ | ⟨no, hk⟩
  · refine ⟨rs, rfl, hr, .inl ⟨l, r, ok, ?_⟩⟩
    obtain ⟨_, h3, hrb, _⟩ := ok
    simp only [cut_last, fIx_last, dT_succ, lsub, rL_succ, rL_len, List.length_append, rD, g_tup2, g_tup3, fNotN_at, fIsN_at, List.getElem?_cons_succ, List.getElem?_cons_zero, s_par3, s_lc, fCut_at, fAdd_lst, fAdd_tup, fList_lst, fList_tup, fTuple_lst, fMul_lst, items_lst, items_tup, range2_at, zip_at, s_body, s_seq, s_next, s_onE, s_onT, s_asg, s_par, s_for, s_raise, s_try, s_asgG, w_bind, w_pure, w_need, w_fail, w_calm, g_0, g_s, fEq_int, fNe_int, fEq_str, fNe_str, fInt_at, fInt0_at, fAdd_int, fCmp_at, fNeg_at, fLen_tup, fLen_lst, fIx_t0, fIx_l0, fIx_t1, fIx_l1, fIntC_at, fAbs_at, fGcd_at, fRepr_at, fBits_at, fIs_at, range_at, List.map_cons, List.map_nil, List.length_cons, List.length_nil, List.cons_append, List.nil_append, List.set_cons_zero, List.set_cons_succ, List.replicate, Nat.reduceAdd, Nat.reduceSub, List.append_nil, dName, true_and, and_true, Nat.zero_add, Nat.sub_self]
    refine ⟨l, x, rfl, ⟨h3, hx⟩, ?_⟩
    rw [ex, if_pos (isPl_T l y)]
    exact ⟨l, r, y, rfl, ⟨by omega, l2, hrb, hb⟩, hk⟩
  · refine ⟨rs, rfl, hr, .inl ⟨l, r, ok, ?_⟩⟩
    obtain ⟨_, h3, hrb, _⟩ := ok
    simp only [cut_last, fIx_last, dT_succ, lsub, rL_succ, rL_len, List.length_append, rD, g_tup2, g_tup3, fNotN_at, fIsN_at, List.getElem?_cons_succ, List.getElem?_cons_zero, s_par3, s_lc, fCut_at, fAdd_lst, fAdd_tup, fList_lst, fList_tup, fTuple_lst, fMul_lst, items_lst, items_tup, range2_at, zip_at, s_body, s_seq, s_next, s_onE, s_onT, s_asg, s_par, s_for, s_raise, s_try, s_asgG, w_bind, w_pure, w_need, w_fail, w_calm, g_0, g_s, fEq_int, fNe_int, fEq_str, fNe_str, fInt_at, fInt0_at, fAdd_int, fCmp_at, fNeg_at, fLen_tup, fLen_lst, fIx_t0, fIx_l0, fIx_t1, fIx_l1, fIntC_at, fAbs_at, fGcd_at, fRepr_at, fBits_at, fIs_at, range_at, List.map_cons, List.map_nil, List.length_cons, List.length_nil, List.cons_append, List.nil_append, List.set_cons_zero, List.set_cons_succ, List.replicate, Nat.reduceAdd, Nat.reduceSub, List.append_nil, dName, true_and, and_true, Nat.zero_add, Nat.sub_self]
    refine ⟨l, x, rfl, ⟨h3, hx⟩, ?_⟩
    rw [ex, if_neg Bool.false_ne_true]
    exact hk
  · exact ⟨rs, rfl, hr, .inr ⟨no, hk⟩⟩


theorem ok_is_grid_root  (F : DefF K mg "is_grid_root" s_is_grid_root ["roots", "number", "value"]) (h_product_plain : DefG P w K mg base "product_plain" ["roots", "one", "other"] (8) (w_product_plain 4)) (h_zero_plain : DefG P w K mg base "zero_plain" ["level", "number"] (2) w_zero_plain) (h_is_plain : DefG P w K mg base "is_plain" ["level", "value"] (2) w_is_plain) (h_is_tuple_of : DefG P w K mg base "is_tuple_of" ["value", "many"] (1) w_is_tuple_of) (h_root_in : DefG P w K mg base "root_in" ["roots", "number"] (15) (w_root_in 3)) (m_len : mg "len" = none) (h_plain_from : DefG P w K mg base "plain_from" ["level", "number"] (8) (w_plain_from C_BadRow)) (h_roots_from : DefG P w K mg base "roots_from" ["roots"] (16) (w_roots_from C_BadRow)) : DefG P w K mg base "is_grid_root" ["roots", "number", "value"] (16 + 1) (w_is_grid_root C_BadRow) := by
  obtain ⟨f_product_plain, d_product_plain, G_product_plain, n_product_plain, q_product_plain, b_product_plain⟩ := h_product_plain.ex
  obtain ⟨f_zero_plain, d_zero_plain, G_zero_plain, n_zero_plain, q_zero_plain, b_zero_plain⟩ := h_zero_plain.ex
  obtain ⟨f_is_plain, d_is_plain, G_is_plain, n_is_plain, q_is_plain, b_is_plain⟩ := h_is_plain.ex
  obtain ⟨f_is_tuple_of, d_is_tuple_of, G_is_tuple_of, n_is_tuple_of, q_is_tuple_of, b_is_tuple_of⟩ := h_is_tuple_of.ex
  obtain ⟨f_root_in, d_root_in, G_root_in, n_root_in, q_root_in, b_root_in⟩ := h_root_in.ex
  obtain ⟨f_plain_from, d_plain_from, G_plain_from, n_plain_from, q_plain_from, b_plain_from⟩ := h_plain_from.ex
  obtain ⟨f_roots_from, d_roots_from, G_roots_from, n_roots_from, q_roots_from, b_roots_from⟩ := h_roots_from.ex
  refine def_ok (k := 16) F sc_is_grid_root (fun f cdv A outer s H E hg hr => (DSs.cons (DS.set (k := 3) (fun _ => sc_is_grid_root.nd) (fun _ => rfl) (fun _ => (.inl rfl)) (DE.call (fun _ => G_roots_from) (fun _ => hg) (fun _ => hr.mono (by omega)) (fun _ => takes_of rfl rfl rfl rfl) (fun _ => by rfl) (fun _ => n_roots_from) (fun _ => q_roots_from) (fun _ => b_roots_from) (DA.cons (DE.var fun _ => pv 0) DA.nil)))
    (DSs.cons (DS.par (i := 4) (j := 5) (fun _ => rfl) (fun _ => sc_is_grid_root.nd) (fun _ => rfl) (fun _ => rfl) (by decide) (fun _ => rfl) (fun _ => rfl) (DA.cons (DE.call (fun _ => G_plain_from) (fun _ => hg) (fun _ => hr.mono (by omega)) (fun _ => takes_of rfl rfl rfl rfl) (fun _ => by rfl) (fun _ => n_plain_from) (fun _ => q_plain_from) (fun _ => b_plain_from) (DA.cons (DE.opL (fun _ _ ha => pe_callB call_lenA (by rfl) m_len (by decide +kernel) ha) sem_len (DA.cons (DE.var fun _ => pv 3) DA.nil)) (DA.cons (DE.var fun _ => pv 1) DA.nil))) (DA.cons (DE.opL (fun _ _ ha => pe_callB call_lenA (by rfl) m_len (by decide +kernel) ha) sem_len (DA.cons (DE.var fun _ => pv 3) DA.nil)) DA.nil)) (fun _ => by rfl))
    (DSs.cons (DS.ifS (DT.cmp (fun _ => op_isN) sem_isN (DE.var fun _ => pv 2) DE.non) (DSs.one (DS.ret (DE.cmp (fun _ => op_isN) sem_isN (DE.call (fun _ => G_root_in) (fun _ => hg) (fun _ => hr.mono (by omega)) (fun _ => takes_of rfl rfl rfl rfl) (fun _ => by rfl) (fun _ => n_root_in) (fun _ => q_root_in) (fun _ => b_root_in) (DA.cons (DE.var fun _ => pv 3) (DA.cons (DE.var fun _ => pv 4) DA.nil))) DE.non))) DSs.nil)
    (DSs.cons (DS.ifS (DW.pt (DW.or (DT.not (DT.val (DE.call (fun _ => G_is_tuple_of) (fun _ => hg) (fun _ => hr.mono (by omega)) (fun _ => takes_of rfl rfl rfl rfl) (fun _ => by rfl) (fun _ => n_is_tuple_of) (fun _ => q_is_tuple_of) (fun _ => b_is_tuple_of) (DA.cons (DE.var fun _ => pv 2) (DA.cons DE.int DA.nil))))) (DW.or (DT.not (DT.val (DE.call (fun _ => G_is_plain) (fun _ => hg) (fun _ => hr.mono (by omega)) (fun _ => takes_of rfl rfl rfl rfl) (fun _ => by rfl) (fun _ => n_is_plain) (fun _ => q_is_plain) (fun _ => b_is_plain) (DA.cons (DE.var fun _ => pv 5) (DA.cons (DE.op2 (fun _ _ _ p q => pe_ix ix_seq p q (fun _ _ => rfl)) sem_ix (DE.var fun _ => pv 2) DE.int) DA.nil))))) (DW.or1 (DT.not (DT.val (DE.call (fun _ => G_is_plain) (fun _ => hg) (fun _ => hr.mono (by omega)) (fun _ => takes_of rfl rfl rfl rfl) (fun _ => by rfl) (fun _ => n_is_plain) (fun _ => q_is_plain) (fun _ => b_is_plain) (DA.cons (DE.var fun _ => pv 5) (DA.cons (DE.op2 (fun _ _ _ p q => pe_ix ix_seq p q (fun _ _ => rfl)) sem_ix (DE.var fun _ => pv 2) DE.int) DA.nil))))))))) (DSs.one (DS.ret DE.bl)) DSs.nil)
    (DSs.cons (DS.ifS (DT.val (DE.call (fun _ => G_zero_plain) (fun _ => hg) (fun _ => hr.mono (by omega)) (fun _ => takes_of rfl rfl rfl rfl) (fun _ => by rfl) (fun _ => n_zero_plain) (fun _ => q_zero_plain) (fun _ => b_zero_plain) (DA.cons (DE.var fun _ => pv 5) (DA.cons (DE.op2 (fun _ _ _ p q => pe_ix ix_seq p q (fun _ _ => rfl)) sem_ix (DE.var fun _ => pv 2) DE.int) DA.nil)))) (DSs.one (DS.ret DE.bl)) DSs.nil)
    (DSs.cons (DS.set (k := 6) (fun _ => sc_is_grid_root.nd) (fun _ => rfl) (fun _ => (.inl rfl)) (DE.call (fun _ => G_product_plain) (fun _ => hg) (fun _ => hr.mono (by omega)) (fun _ => takes_of rfl rfl rfl rfl) (fun _ => by rfl) (fun _ => n_product_plain) (fun _ => q_product_plain) (fun _ => b_product_plain) (DA.cons (DE.var fun _ => pv 3) (DA.cons (DE.op2 (fun _ _ _ p q => pe_ix ix_seq p q (fun _ _ => rfl)) sem_ix (DE.var fun _ => pv 2) DE.int) (DA.cons (DE.op2 (fun _ _ _ p q => pe_ix ix_seq p q (fun _ _ => rfl)) sem_ix (DE.var fun _ => pv 2) DE.int) DA.nil)))))
    (DSs.one (DS.ret (DE.cmp (fun _ => op_eqA hr.units) sem_eqA (DE.call (fun _ => G_product_plain) (fun _ => hg) (fun _ => hr.mono (by omega)) (fun _ => takes_of rfl rfl rfl rfl) (fun _ => by rfl) (fun _ => n_product_plain) (fun _ => q_product_plain) (fun _ => b_product_plain) (DA.cons (DE.var fun _ => pv 3) (DA.cons (DE.op2 (fun _ _ _ p q => pe_ix ix_seq p q (fun _ _ => rfl)) sem_ix (DE.var fun _ => pv 2) DE.int) (DA.cons (DE.op2 (fun _ _ _ p q => pe_ix ix_seq p q (fun _ _ => rfl)) sem_ix (DE.var fun _ => pv 2) DE.int) DA.nil)))) (DE.call (fun _ => G_product_plain) (fun _ => hg) (fun _ => hr.mono (by omega)) (fun _ => takes_of rfl rfl rfl rfl) (fun _ => by rfl) (fun _ => n_product_plain) (fun _ => q_product_plain) (fun _ => b_product_plain) (DA.cons (DE.var fun _ => pv 3) (DA.cons (DE.var fun _ => pv 4) (DA.cons (DE.var fun _ => pv 6) DA.nil)))))))))))))) fun ds Kd Kx n hl h => ?_
  obtain ⟨rs, x, v, rfl, hr, hx, hv, h⟩ := h
  simp only [cut_last, fIx_last, dT_succ, lsub, rL_succ, rL_len, List.length_append, rD, g_tup2, g_tup3, fNotN_at, fIsN_at, List.getElem?_cons_succ, List.getElem?_cons_zero, s_par3, s_lc, fCut_at, fAdd_lst, fAdd_tup, fList_lst, fList_tup, fTuple_lst, fMul_lst, items_lst, items_tup, range2_at, zip_at, s_body, s_seq, s_next, s_onE, s_onT, s_asg, s_par, s_for, s_raise, s_try, s_asgG, w_bind, w_pure, w_need, w_fail, w_calm, g_0, g_s, fEq_int, fNe_int, fEq_str, fNe_str, fInt_at, fInt0_at, fAdd_int, fCmp_at, fNeg_at, fLen_tup, fLen_lst, fIx_t0, fIx_l0, fIx_t1, fIx_l1, fIntC_at, fAbs_at, fGcd_at, fRepr_at, fBits_at, fIs_at, range_at, List.map_cons, List.map_nil, List.length_cons, List.length_nil, List.cons_append, List.nil_append, List.set_cons_zero, List.set_cons_succ, List.replicate, Nat.reduceAdd, Nat.reduceSub, List.append_nil, dName, true_and, and_true, Nat.zero_add, Nat.sub_self]
  rcases h with ⟨l, r, y, ok, l2, ex, hb, hk⟩ | ⟨l, r, ok, ex, hk⟩ | ⟨no, hk⟩
  · refine ⟨rs, rfl, hr, .inl ⟨l, r, ok, ?_⟩⟩
    obtain ⟨_, h3, hrb, _⟩ := ok
    simp only [cut_last, fIx_last, dT_succ, lsub, rL_succ, rL_len, List.length_append, rD, g_tup2, g_tup3, fNotN_at, fIsN_at, List.getElem?_cons_succ, List.getElem?_cons_zero, s_par3, s_lc, fCut_at, fAdd_lst, fAdd_tup, fList_lst, fList_tup, fTuple_lst, fMul_lst, items_lst, items_tup, range2_at, zip_at, s_body, s_seq, s_next, s_onE, s_onT, s_asg, s_par, s_for, s_raise, s_try, s_asgG, w_bind, w_pure, w_need, w_fail, w_calm, g_0, g_s, fEq_int, fNe_int, fEq_str, fNe_str, fInt_at, fInt0_at, fAdd_int, fCmp_at, fNeg_at, fLen_tup, fLen_lst, fIx_t0, fIx_l0, fIx_t1, fIx_l1, fIntC_at, fAbs_at, fGcd_at, fRepr_at, fBits_at, fIs_at, range_at, List.map_cons, List.map_nil, List.length_cons, List.length_nil, List.cons_append, List.nil_append, List.set_cons_zero, List.set_cons_succ, List.replicate, Nat.reduceAdd, Nat.reduceSub, List.append_nil, dName, true_and, and_true, Nat.zero_add, Nat.sub_self]
    refine ⟨l, x, rfl, ⟨h3, hx⟩, ?_⟩
    rw [ex, if_pos (isPl_T l y)]
    try simp only [cut_last, fIx_last, dT_succ, lsub, rL_succ, rL_len, List.length_append, rD, g_tup2, g_tup3, fNotN_at, fIsN_at, List.getElem?_cons_succ, List.getElem?_cons_zero, s_par3, s_lc, fCut_at, fAdd_lst, fAdd_tup, fList_lst, fList_tup, fTuple_lst, fMul_lst, items_lst, items_tup, range2_at, zip_at, s_body, s_seq, s_next, s_onE, s_onT, s_asg, s_par, s_for, s_raise, s_try, s_asgG, w_bind, w_pure, w_need, w_fail, w_calm, g_0, g_s, fEq_int, fNe_int, fEq_str, fNe_str, fInt_at, fInt0_at, fAdd_int, fCmp_at, fNeg_at, fLen_tup, fLen_lst, fIx_t0, fIx_l0, fIx_t1, fIx_l1, fIntC_at, fAbs_at, fGcd_at, fRepr_at, fBits_at, fIs_at, range_at, List.map_cons, List.map_nil, List.length_cons, List.length_nil, List.cons_append, List.nil_append, List.set_cons_zero, List.set_cons_succ, List.replicate, Nat.reduceAdd, Nat.reduceSub, List.append_nil, dName, true_and, and_true, Nat.zero_add, Nat.sub_self]
    rcases hk with ⟨rfl, hk⟩ | ⟨⟨nv, hbad⟩, hk⟩ | ⟨p, q, rfl, bp, bq, hk⟩
    · refine ifT rfl ?_
      refine ⟨l, r, y, rfl, ⟨by omega, l2, hrb, hb⟩, ?_⟩
      have e : nonB (optT l (rootIn l r y)) = (rootIn l r y).isNone := by cases rootIn l r y <;> rfl
      show Kd (D.bl (nonB (optT l (rootIn l r y)))) n
      rw [e]
      exact hk
    · have hn : nonB v = false := by cases v <;> first | rfl | exact absurd rfl nv
      refine ifF (by rw [hn]; decide) ?_
      try simp only [cut_last, fIx_last, dT_succ, lsub, rL_succ, rL_len, List.length_append, rD, g_tup2, g_tup3, fNotN_at, fIsN_at, List.getElem?_cons_succ, List.getElem?_cons_zero, s_par3, s_lc, fCut_at, fAdd_lst, fAdd_tup, fList_lst, fList_tup, fTuple_lst, fMul_lst, items_lst, items_tup, range2_at, zip_at, s_body, s_seq, s_next, s_onE, s_onT, s_asg, s_par, s_for, s_raise, s_try, s_asgG, w_bind, w_pure, w_need, w_fail, w_calm, g_0, g_s, fEq_int, fNe_int, fEq_str, fNe_str, fInt_at, fInt0_at, fAdd_int, fCmp_at, fNeg_at, fLen_tup, fLen_lst, fIx_t0, fIx_l0, fIx_t1, fIx_l1, fIntC_at, fAbs_at, fGcd_at, fRepr_at, fBits_at, fIs_at, range_at, List.map_cons, List.map_nil, List.length_cons, List.length_nil, List.cons_append, List.nil_append, List.set_cons_zero, List.set_cons_succ, List.replicate, Nat.reduceAdd, Nat.reduceSub, List.append_nil, dName, true_and, and_true, Nat.zero_add, Nat.sub_self]
      refine ⟨okDp_base hv, ?_⟩
      try simp only [cut_last, fIx_last, dT_succ, lsub, rL_succ, rL_len, List.length_append, rD, g_tup2, g_tup3, fNotN_at, fIsN_at, List.getElem?_cons_succ, List.getElem?_cons_zero, s_par3, s_lc, fCut_at, fAdd_lst, fAdd_tup, fList_lst, fList_tup, fTuple_lst, fMul_lst, items_lst, items_tup, range2_at, zip_at, s_body, s_seq, s_next, s_onE, s_onT, s_asg, s_par, s_for, s_raise, s_try, s_asgG, w_bind, w_pure, w_need, w_fail, w_calm, g_0, g_s, fEq_int, fNe_int, fEq_str, fNe_str, fInt_at, fInt0_at, fAdd_int, fCmp_at, fNeg_at, fLen_tup, fLen_lst, fIx_t0, fIx_l0, fIx_t1, fIx_l1, fIntC_at, fAbs_at, fGcd_at, fRepr_at, fBits_at, fIs_at, range_at, List.map_cons, List.map_nil, List.length_cons, List.length_nil, List.cons_append, List.nil_append, List.set_cons_zero, List.set_cons_succ, List.replicate, Nat.reduceAdd, Nat.reduceSub, List.append_nil, dName, true_and, and_true, Nat.zero_add, Nat.sub_self]
      by_cases ht : tupLen v 2 = true
      · obtain ⟨x1, x2, rfl⟩ := tup2_of ht
        rcases hbad with hbad | ⟨a, b, e, hbad⟩
        · cases hbad
        · cases e
          obtain ⟨o1, o2⟩ := okDp_two hv
          rw [ht]
          try simp only [cut_last, fIx_last, dT_succ, lsub, rL_succ, rL_len, List.length_append, rD, g_tup2, g_tup3, fNotN_at, fIsN_at, List.getElem?_cons_succ, List.getElem?_cons_zero, s_par3, s_lc, fCut_at, fAdd_lst, fAdd_tup, fList_lst, fList_tup, fTuple_lst, fMul_lst, items_lst, items_tup, range2_at, zip_at, s_body, s_seq, s_next, s_onE, s_onT, s_asg, s_par, s_for, s_raise, s_try, s_asgG, w_bind, w_pure, w_need, w_fail, w_calm, g_0, g_s, fEq_int, fNe_int, fEq_str, fNe_str, fInt_at, fInt0_at, fAdd_int, fCmp_at, fNeg_at, fLen_tup, fLen_lst, fIx_t0, fIx_l0, fIx_t1, fIx_l1, fIntC_at, fAbs_at, fGcd_at, fRepr_at, fBits_at, fIs_at, range_at, List.map_cons, List.map_nil, List.length_cons, List.length_nil, List.cons_append, List.nil_append, List.set_cons_zero, List.set_cons_succ, List.replicate, Nat.reduceAdd, Nat.reduceSub, List.append_nil, dName, true_and, and_true, Nat.zero_add, Nat.sub_self]
          try rw [w_ite]
          refine ifF (by simp) ?_
          try simp only [cut_last, fIx_last, dT_succ, lsub, rL_succ, rL_len, List.length_append, rD, g_tup2, g_tup3, fNotN_at, fIsN_at, List.getElem?_cons_succ, List.getElem?_cons_zero, s_par3, s_lc, fCut_at, fAdd_lst, fAdd_tup, fList_lst, fList_tup, fTuple_lst, fMul_lst, items_lst, items_tup, range2_at, zip_at, s_body, s_seq, s_next, s_onE, s_onT, s_asg, s_par, s_for, s_raise, s_try, s_asgG, w_bind, w_pure, w_need, w_fail, w_calm, g_0, g_s, fEq_int, fNe_int, fEq_str, fNe_str, fInt_at, fInt0_at, fAdd_int, fCmp_at, fNeg_at, fLen_tup, fLen_lst, fIx_t0, fIx_l0, fIx_t1, fIx_l1, fIntC_at, fAbs_at, fGcd_at, fRepr_at, fBits_at, fIs_at, range_at, List.map_cons, List.map_nil, List.length_cons, List.length_nil, List.cons_append, List.nil_append, List.set_cons_zero, List.set_cons_succ, List.replicate, Nat.reduceAdd, Nat.reduceSub, List.append_nil, dName, true_and, and_true, Nat.zero_add, Nat.sub_self]
          refine ⟨l, x1, rfl, ⟨h3, okDp_succ o1⟩, ?_⟩
          try simp only [cut_last, fIx_last, dT_succ, lsub, rL_succ, rL_len, List.length_append, rD, g_tup2, g_tup3, fNotN_at, fIsN_at, List.getElem?_cons_succ, List.getElem?_cons_zero, s_par3, s_lc, fCut_at, fAdd_lst, fAdd_tup, fList_lst, fList_tup, fTuple_lst, fMul_lst, items_lst, items_tup, range2_at, zip_at, s_body, s_seq, s_next, s_onE, s_onT, s_asg, s_par, s_for, s_raise, s_try, s_asgG, w_bind, w_pure, w_need, w_fail, w_calm, g_0, g_s, fEq_int, fNe_int, fEq_str, fNe_str, fInt_at, fInt0_at, fAdd_int, fCmp_at, fNeg_at, fLen_tup, fLen_lst, fIx_t0, fIx_l0, fIx_t1, fIx_l1, fIntC_at, fAbs_at, fGcd_at, fRepr_at, fBits_at, fIs_at, range_at, List.map_cons, List.map_nil, List.length_cons, List.length_nil, List.cons_append, List.nil_append, List.set_cons_zero, List.set_cons_succ, List.replicate, Nat.reduceAdd, Nat.reduceSub, List.append_nil, dName, true_and, and_true, Nat.zero_add, Nat.sub_self]
          try rw [w_ite]
          by_cases i1 : isPl l x1 = true
          · refine ifF (by simp [i1]) ?_
            try simp only [cut_last, fIx_last, dT_succ, lsub, rL_succ, rL_len, List.length_append, rD, g_tup2, g_tup3, fNotN_at, fIsN_at, List.getElem?_cons_succ, List.getElem?_cons_zero, s_par3, s_lc, fCut_at, fAdd_lst, fAdd_tup, fList_lst, fList_tup, fTuple_lst, fMul_lst, items_lst, items_tup, range2_at, zip_at, s_body, s_seq, s_next, s_onE, s_onT, s_asg, s_par, s_for, s_raise, s_try, s_asgG, w_bind, w_pure, w_need, w_fail, w_calm, g_0, g_s, fEq_int, fNe_int, fEq_str, fNe_str, fInt_at, fInt0_at, fAdd_int, fCmp_at, fNeg_at, fLen_tup, fLen_lst, fIx_t0, fIx_l0, fIx_t1, fIx_l1, fIntC_at, fAbs_at, fGcd_at, fRepr_at, fBits_at, fIs_at, range_at, List.map_cons, List.map_nil, List.length_cons, List.length_nil, List.cons_append, List.nil_append, List.set_cons_zero, List.set_cons_succ, List.replicate, Nat.reduceAdd, Nat.reduceSub, List.append_nil, dName, true_and, and_true, Nat.zero_add, Nat.sub_self]
            refine ⟨l, x2, rfl, ⟨h3, okDp_succ o2⟩, ?_⟩
            rw [i1, Bool.true_and] at hbad
            rw [hbad]
            try simp only [cut_last, fIx_last, dT_succ, lsub, rL_succ, rL_len, List.length_append, rD, g_tup2, g_tup3, fNotN_at, fIsN_at, List.getElem?_cons_succ, List.getElem?_cons_zero, s_par3, s_lc, fCut_at, fAdd_lst, fAdd_tup, fList_lst, fList_tup, fTuple_lst, fMul_lst, items_lst, items_tup, range2_at, zip_at, s_body, s_seq, s_next, s_onE, s_onT, s_asg, s_par, s_for, s_raise, s_try, s_asgG, w_bind, w_pure, w_need, w_fail, w_calm, g_0, g_s, fEq_int, fNe_int, fEq_str, fNe_str, fInt_at, fInt0_at, fAdd_int, fCmp_at, fNeg_at, fLen_tup, fLen_lst, fIx_t0, fIx_l0, fIx_t1, fIx_l1, fIntC_at, fAbs_at, fGcd_at, fRepr_at, fBits_at, fIs_at, range_at, List.map_cons, List.map_nil, List.length_cons, List.length_nil, List.cons_append, List.nil_append, List.set_cons_zero, List.set_cons_succ, List.replicate, Nat.reduceAdd, Nat.reduceSub, List.append_nil, dName, true_and, and_true, Nat.zero_add, Nat.sub_self]
            refine ifT (by simp) ?_
            exact hk
          · refine ifT (by simpa using i1) ?_
            try simp only [cut_last, fIx_last, dT_succ, lsub, rL_succ, rL_len, List.length_append, rD, g_tup2, g_tup3, fNotN_at, fIsN_at, List.getElem?_cons_succ, List.getElem?_cons_zero, s_par3, s_lc, fCut_at, fAdd_lst, fAdd_tup, fList_lst, fList_tup, fTuple_lst, fMul_lst, items_lst, items_tup, range2_at, zip_at, s_body, s_seq, s_next, s_onE, s_onT, s_asg, s_par, s_for, s_raise, s_try, s_asgG, w_bind, w_pure, w_need, w_fail, w_calm, g_0, g_s, fEq_int, fNe_int, fEq_str, fNe_str, fInt_at, fInt0_at, fAdd_int, fCmp_at, fNeg_at, fLen_tup, fLen_lst, fIx_t0, fIx_l0, fIx_t1, fIx_l1, fIntC_at, fAbs_at, fGcd_at, fRepr_at, fBits_at, fIs_at, range_at, List.map_cons, List.map_nil, List.length_cons, List.length_nil, List.cons_append, List.nil_append, List.set_cons_zero, List.set_cons_succ, List.replicate, Nat.reduceAdd, Nat.reduceSub, List.append_nil, dName, true_and, and_true, Nat.zero_add, Nat.sub_self]
            refine ifT (by simp) ?_
            exact hk
      · try rw [w_ite]
        refine ifT (by simpa using ht) ?_
        try simp only [cut_last, fIx_last, dT_succ, lsub, rL_succ, rL_len, List.length_append, rD, g_tup2, g_tup3, fNotN_at, fIsN_at, List.getElem?_cons_succ, List.getElem?_cons_zero, s_par3, s_lc, fCut_at, fAdd_lst, fAdd_tup, fList_lst, fList_tup, fTuple_lst, fMul_lst, items_lst, items_tup, range2_at, zip_at, s_body, s_seq, s_next, s_onE, s_onT, s_asg, s_par, s_for, s_raise, s_try, s_asgG, w_bind, w_pure, w_need, w_fail, w_calm, g_0, g_s, fEq_int, fNe_int, fEq_str, fNe_str, fInt_at, fInt0_at, fAdd_int, fCmp_at, fNeg_at, fLen_tup, fLen_lst, fIx_t0, fIx_l0, fIx_t1, fIx_l1, fIntC_at, fAbs_at, fGcd_at, fRepr_at, fBits_at, fIs_at, range_at, List.map_cons, List.map_nil, List.length_cons, List.length_nil, List.cons_append, List.nil_append, List.set_cons_zero, List.set_cons_succ, List.replicate, Nat.reduceAdd, Nat.reduceSub, List.append_nil, dName, true_and, and_true, Nat.zero_add, Nat.sub_self]
        refine ifT (by simp) ?_
        exact hk
    · refine ifF (by simp [nonB]) ?_
      try simp only [cut_last, fIx_last, dT_succ, lsub, rL_succ, rL_len, List.length_append, rD, g_tup2, g_tup3, fNotN_at, fIsN_at, List.getElem?_cons_succ, List.getElem?_cons_zero, s_par3, s_lc, fCut_at, fAdd_lst, fAdd_tup, fList_lst, fList_tup, fTuple_lst, fMul_lst, items_lst, items_tup, range2_at, zip_at, s_body, s_seq, s_next, s_onE, s_onT, s_asg, s_par, s_for, s_raise, s_try, s_asgG, w_bind, w_pure, w_need, w_fail, w_calm, g_0, g_s, fEq_int, fNe_int, fEq_str, fNe_str, fInt_at, fInt0_at, fAdd_int, fCmp_at, fNeg_at, fLen_tup, fLen_lst, fIx_t0, fIx_l0, fIx_t1, fIx_l1, fIntC_at, fAbs_at, fGcd_at, fRepr_at, fBits_at, fIs_at, range_at, List.map_cons, List.map_nil, List.length_cons, List.length_nil, List.cons_append, List.nil_append, List.set_cons_zero, List.set_cons_succ, List.replicate, Nat.reduceAdd, Nat.reduceSub, List.append_nil, dName, true_and, and_true, Nat.zero_add, Nat.sub_self]
      refine ⟨okDp_base hv, ?_⟩
      have ht : tupLen (.tup [dT l p, dT l q]) 2 = true := rfl
      obtain ⟨o1, o2⟩ := okDp_two hv
      rw [ht]
      try simp only [cut_last, fIx_last, dT_succ, lsub, rL_succ, rL_len, List.length_append, rD, g_tup2, g_tup3, fNotN_at, fIsN_at, List.getElem?_cons_succ, List.getElem?_cons_zero, s_par3, s_lc, fCut_at, fAdd_lst, fAdd_tup, fList_lst, fList_tup, fTuple_lst, fMul_lst, items_lst, items_tup, range2_at, zip_at, s_body, s_seq, s_next, s_onE, s_onT, s_asg, s_par, s_for, s_raise, s_try, s_asgG, w_bind, w_pure, w_need, w_fail, w_calm, g_0, g_s, fEq_int, fNe_int, fEq_str, fNe_str, fInt_at, fInt0_at, fAdd_int, fCmp_at, fNeg_at, fLen_tup, fLen_lst, fIx_t0, fIx_l0, fIx_t1, fIx_l1, fIntC_at, fAbs_at, fGcd_at, fRepr_at, fBits_at, fIs_at, range_at, List.map_cons, List.map_nil, List.length_cons, List.length_nil, List.cons_append, List.nil_append, List.set_cons_zero, List.set_cons_succ, List.replicate, Nat.reduceAdd, Nat.reduceSub, List.append_nil, dName, true_and, and_true, Nat.zero_add, Nat.sub_self]
      try rw [w_ite]
      refine ifF (by simp) ?_
      try simp only [cut_last, fIx_last, dT_succ, lsub, rL_succ, rL_len, List.length_append, rD, g_tup2, g_tup3, fNotN_at, fIsN_at, List.getElem?_cons_succ, List.getElem?_cons_zero, s_par3, s_lc, fCut_at, fAdd_lst, fAdd_tup, fList_lst, fList_tup, fTuple_lst, fMul_lst, items_lst, items_tup, range2_at, zip_at, s_body, s_seq, s_next, s_onE, s_onT, s_asg, s_par, s_for, s_raise, s_try, s_asgG, w_bind, w_pure, w_need, w_fail, w_calm, g_0, g_s, fEq_int, fNe_int, fEq_str, fNe_str, fInt_at, fInt0_at, fAdd_int, fCmp_at, fNeg_at, fLen_tup, fLen_lst, fIx_t0, fIx_l0, fIx_t1, fIx_l1, fIntC_at, fAbs_at, fGcd_at, fRepr_at, fBits_at, fIs_at, range_at, List.map_cons, List.map_nil, List.length_cons, List.length_nil, List.cons_append, List.nil_append, List.set_cons_zero, List.set_cons_succ, List.replicate, Nat.reduceAdd, Nat.reduceSub, List.append_nil, dName, true_and, and_true, Nat.zero_add, Nat.sub_self]
      refine ⟨l, _, rfl, ⟨h3, okDp_succ o1⟩, ?_⟩
      rw [isPl_T]
      try simp only [cut_last, fIx_last, dT_succ, lsub, rL_succ, rL_len, List.length_append, rD, g_tup2, g_tup3, fNotN_at, fIsN_at, List.getElem?_cons_succ, List.getElem?_cons_zero, s_par3, s_lc, fCut_at, fAdd_lst, fAdd_tup, fList_lst, fList_tup, fTuple_lst, fMul_lst, items_lst, items_tup, range2_at, zip_at, s_body, s_seq, s_next, s_onE, s_onT, s_asg, s_par, s_for, s_raise, s_try, s_asgG, w_bind, w_pure, w_need, w_fail, w_calm, g_0, g_s, fEq_int, fNe_int, fEq_str, fNe_str, fInt_at, fInt0_at, fAdd_int, fCmp_at, fNeg_at, fLen_tup, fLen_lst, fIx_t0, fIx_l0, fIx_t1, fIx_l1, fIntC_at, fAbs_at, fGcd_at, fRepr_at, fBits_at, fIs_at, range_at, List.map_cons, List.map_nil, List.length_cons, List.length_nil, List.cons_append, List.nil_append, List.set_cons_zero, List.set_cons_succ, List.replicate, Nat.reduceAdd, Nat.reduceSub, List.append_nil, dName, true_and, and_true, Nat.zero_add, Nat.sub_self]
      try rw [w_ite]
      refine ifF (by simp) ?_
      try simp only [cut_last, fIx_last, dT_succ, lsub, rL_succ, rL_len, List.length_append, rD, g_tup2, g_tup3, fNotN_at, fIsN_at, List.getElem?_cons_succ, List.getElem?_cons_zero, s_par3, s_lc, fCut_at, fAdd_lst, fAdd_tup, fList_lst, fList_tup, fTuple_lst, fMul_lst, items_lst, items_tup, range2_at, zip_at, s_body, s_seq, s_next, s_onE, s_onT, s_asg, s_par, s_for, s_raise, s_try, s_asgG, w_bind, w_pure, w_need, w_fail, w_calm, g_0, g_s, fEq_int, fNe_int, fEq_str, fNe_str, fInt_at, fInt0_at, fAdd_int, fCmp_at, fNeg_at, fLen_tup, fLen_lst, fIx_t0, fIx_l0, fIx_t1, fIx_l1, fIntC_at, fAbs_at, fGcd_at, fRepr_at, fBits_at, fIs_at, range_at, List.map_cons, List.map_nil, List.length_cons, List.length_nil, List.cons_append, List.nil_append, List.set_cons_zero, List.set_cons_succ, List.replicate, Nat.reduceAdd, Nat.reduceSub, List.append_nil, dName, true_and, and_true, Nat.zero_add, Nat.sub_self]
      refine ⟨l, _, rfl, ⟨h3, okDp_succ o2⟩, ?_⟩
      rw [isPl_T]
      try simp only [cut_last, fIx_last, dT_succ, lsub, rL_succ, rL_len, List.length_append, rD, g_tup2, g_tup3, fNotN_at, fIsN_at, List.getElem?_cons_succ, List.getElem?_cons_zero, s_par3, s_lc, fCut_at, fAdd_lst, fAdd_tup, fList_lst, fList_tup, fTuple_lst, fMul_lst, items_lst, items_tup, range2_at, zip_at, s_body, s_seq, s_next, s_onE, s_onT, s_asg, s_par, s_for, s_raise, s_try, s_asgG, w_bind, w_pure, w_need, w_fail, w_calm, g_0, g_s, fEq_int, fNe_int, fEq_str, fNe_str, fInt_at, fInt0_at, fAdd_int, fCmp_at, fNeg_at, fLen_tup, fLen_lst, fIx_t0, fIx_l0, fIx_t1, fIx_l1, fIntC_at, fAbs_at, fGcd_at, fRepr_at, fBits_at, fIs_at, range_at, List.map_cons, List.map_nil, List.length_cons, List.length_nil, List.cons_append, List.nil_append, List.set_cons_zero, List.set_cons_succ, List.replicate, Nat.reduceAdd, Nat.reduceSub, List.append_nil, dName, true_and, and_true, Nat.zero_add, Nat.sub_self]
      refine ifF (by simp) ?_
      try simp only [cut_last, fIx_last, dT_succ, lsub, rL_succ, rL_len, List.length_append, rD, g_tup2, g_tup3, fNotN_at, fIsN_at, List.getElem?_cons_succ, List.getElem?_cons_zero, s_par3, s_lc, fCut_at, fAdd_lst, fAdd_tup, fList_lst, fList_tup, fTuple_lst, fMul_lst, items_lst, items_tup, range2_at, zip_at, s_body, s_seq, s_next, s_onE, s_onT, s_asg, s_par, s_for, s_raise, s_try, s_asgG, w_bind, w_pure, w_need, w_fail, w_calm, g_0, g_s, fEq_int, fNe_int, fEq_str, fNe_str, fInt_at, fInt0_at, fAdd_int, fCmp_at, fNeg_at, fLen_tup, fLen_lst, fIx_t0, fIx_l0, fIx_t1, fIx_l1, fIntC_at, fAbs_at, fGcd_at, fRepr_at, fBits_at, fIs_at, range_at, List.map_cons, List.map_nil, List.length_cons, List.length_nil, List.cons_append, List.nil_append, List.set_cons_zero, List.set_cons_succ, List.replicate, Nat.reduceAdd, Nat.reduceSub, List.append_nil, dName, true_and, and_true, Nat.zero_add, Nat.sub_self]
      refine ⟨l, q, rfl, h3, ?_⟩
      try simp only [cut_last, fIx_last, dT_succ, lsub, rL_succ, rL_len, List.length_append, rD, g_tup2, g_tup3, fNotN_at, fIsN_at, List.getElem?_cons_succ, List.getElem?_cons_zero, s_par3, s_lc, fCut_at, fAdd_lst, fAdd_tup, fList_lst, fList_tup, fTuple_lst, fMul_lst, items_lst, items_tup, range2_at, zip_at, s_body, s_seq, s_next, s_onE, s_onT, s_asg, s_par, s_for, s_raise, s_try, s_asgG, w_bind, w_pure, w_need, w_fail, w_calm, g_0, g_s, fEq_int, fNe_int, fEq_str, fNe_str, fInt_at, fInt0_at, fAdd_int, fCmp_at, fNeg_at, fLen_tup, fLen_lst, fIx_t0, fIx_l0, fIx_t1, fIx_l1, fIntC_at, fAbs_at, fGcd_at, fRepr_at, fBits_at, fIs_at, range_at, List.map_cons, List.map_nil, List.length_cons, List.length_nil, List.cons_append, List.nil_append, List.set_cons_zero, List.set_cons_succ, List.replicate, Nat.reduceAdd, Nat.reduceSub, List.append_nil, dName, true_and, and_true, Nat.zero_add, Nat.sub_self]
      unfold rootB at hk
      by_cases hz : zB l q = true
      · refine ifT hz ?_
        rw [hz] at hk
        exact hk
      · refine ifF hz ?_
        have hz : zB l q = false := by simpa using hz
        rw [hz] at hk
        have c12 : cc l ≤ 12 := cc2 l2
        have b31 : Bd l 20000 y := hb.mono (by match l, l2 with | 0, _ => decide | 1, _ => decide | 2, _ => decide)
        have bqq := Bd.mul hrb bq bq
        refine ⟨l, r, q, q, _, _, rfl, ⟨by omega, by omega, hrb, bq, bq, by omega⟩, ?_⟩
        refine ⟨l, r, p, p, _, _, rfl, ⟨by omega, by omega, hrb, bp, bp, by omega⟩, ?_⟩
        refine ⟨l, r, y, _, _, _, rfl, ⟨by omega, by omega, hrb, b31, bqq, by omega⟩, ?_⟩
        refine fEq_data (eqOk_T l _ (by omega)).1 (eqOk_T l _ (by omega)).1 ?_
        rw [eqD_flT]
        exact hk
  · refine ⟨rs, rfl, hr, .inl ⟨l, r, ok, ?_⟩⟩
    obtain ⟨_, h3, hrb, _⟩ := ok
    simp only [cut_last, fIx_last, dT_succ, lsub, rL_succ, rL_len, List.length_append, rD, g_tup2, g_tup3, fNotN_at, fIsN_at, List.getElem?_cons_succ, List.getElem?_cons_zero, s_par3, s_lc, fCut_at, fAdd_lst, fAdd_tup, fList_lst, fList_tup, fTuple_lst, fMul_lst, items_lst, items_tup, range2_at, zip_at, s_body, s_seq, s_next, s_onE, s_onT, s_asg, s_par, s_for, s_raise, s_try, s_asgG, w_bind, w_pure, w_need, w_fail, w_calm, g_0, g_s, fEq_int, fNe_int, fEq_str, fNe_str, fInt_at, fInt0_at, fAdd_int, fCmp_at, fNeg_at, fLen_tup, fLen_lst, fIx_t0, fIx_l0, fIx_t1, fIx_l1, fIntC_at, fAbs_at, fGcd_at, fRepr_at, fBits_at, fIs_at, range_at, List.map_cons, List.map_nil, List.length_cons, List.length_nil, List.cons_append, List.nil_append, List.set_cons_zero, List.set_cons_succ, List.replicate, Nat.reduceAdd, Nat.reduceSub, List.append_nil, dName, true_and, and_true, Nat.zero_add, Nat.sub_self]
    refine ⟨l, x, rfl, ⟨h3, hx⟩, ?_⟩
    rw [ex, if_neg Bool.false_ne_true]
    exact hk
  · exact ⟨rs, rfl, hr, .inr ⟨no, hk⟩⟩


theorem ok__law_pen  (F : DefF K mg "_law_pen" s__law_pen ["script"]) (m_int : mg "int" = none) (m_list : mg "list" = none) : DefG P w K mg base "_law_pen" ["script"] (0 + 1) (w__law_pen K) := by
  refine def_ok (k := 0) F sc__law_pen (fun f cdv A outer s H E hg hr => (DSs.cons (DS.set (k := 1) (fun _ => sc__law_pen.nd) (fun _ => rfl) (fun _ => (.inl rfl)) DE.int)
    (DSs.cons (DS.for (fun _ => passes_of rfl) (fun _ => rfl) (DI.scr (fun _ => rfl) (DE.var fun _ => pv 0)) (DG.name (k := 2) (fun _ => pg_name sc__law_pen.nd rfl (.inl rfl))) (DSs.one (DS.set (k := 1) (fun _ => sc__law_pen.nd) (fun _ => rfl) (fun _ => (.inl rfl)) (DE.op2 (fun _ _ _ p q => pe_op op_modA p q) sem_int (DE.opL (fun _ _ ha => pe_callTy call_int1 (by rfl) m_int (by decide +kernel) ha) sem_intC (DA.cons (DE.op2 (fun _ _ _ p q => pe_op op_addA p q) sem_add (DE.op2 (fun _ _ _ p q => pe_op op_mulW p q) sem_int (DE.var fun _ => pv 1) DE.int) (DE.var fun _ => pv 2)) DA.nil)) DE.int))))
    (DSs.one (DS.ret (DE.pen (i := 0) (j := 1) fun _ => pe_disp (pps_cons pe_str (pe_callTy call_list_of (by rfl) m_list (by decide +kernel) (pa_cons (pv 0) pa_nil)) (pps_cons pe_str pe_int (pps_cons pe_str pe_int (pps_cons pe_str pe_int (pps_cons pe_str (pv 1) pps_nil))))) (by rfl) (by rfl) (by simp) (by decide))))))) fun ds Kd Kx n hl h => ?_
  match ds, hl with
  | [x], _ =>
  cases x with
  | scr K' ns ts =>
    obtain ⟨⟨rfl, h1⟩, hk⟩ := h
    simp only [s_body, s_seq, s_next, s_onE, s_onT, s_asg, s_par, s_for, s_raise, s_try, s_asgG, w_bind, w_pure, w_need, w_fail, w_calm, g_0, g_s, fEq_int, fNe_int, fEq_str, fNe_str, fInt_at, fInt0_at, fAdd_int, fCmp_at, fNeg_at, fLen_tup, fLen_lst, fIx_t0, fIx_l0, fIx_t1, fIx_l1, fIntC_at, fAbs_at, fGcd_at, fRepr_at, fBits_at, fIs_at, range_at, List.map_cons, List.map_nil, List.length_cons, List.length_nil, List.cons_append, List.nil_append, List.set_cons_zero, List.set_cons_succ, List.replicate, Nat.reduceAdd, Nat.reduceSub, List.append_nil, dName, true_and, and_true, Nat.zero_add, Nat.sub_self]
    refine forD_inv (fun k ρ n' => n' = n ∧ ∃ (f : Int) (z : Option SV), ρ = [some (.d (.scr K' ns ts)), some (.d (.int f)), z] ∧ 0 ≤ f ∧ f < 999999391) _ _ _ ⟨rfl, 0, _, rfl, by decide, by decide⟩ (fun ρ n' hi => ?_) fun k d ρ n' E' hd hi hnx hbk hrt hex => ?_
    · obtain ⟨rfl, f, z, rfl, f0, f1⟩ := hi
      exact ⟨⟨rfl, h1, f0, by omega⟩, hk⟩
    · obtain ⟨rfl, f, z, rfl, f0, f1⟩ := hi
      obtain ⟨c, _, rfl⟩ := List.mem_map.mp hd
      simp only [s_body, s_seq, s_next, s_onE, s_onT, s_asg, s_par, s_for, s_raise, s_try, s_asgG, w_bind, w_pure, w_need, w_fail, w_calm, g_0, g_s, fEq_int, fNe_int, fEq_str, fNe_str, fInt_at, fInt0_at, fAdd_int, fCmp_at, fNeg_at, fLen_tup, fLen_lst, fIx_t0, fIx_l0, fIx_t1, fIx_l1, fIntC_at, fAbs_at, fGcd_at, fRepr_at, fBits_at, fIs_at, range_at, List.map_cons, List.map_nil, List.length_cons, List.length_nil, List.cons_append, List.nil_append, List.set_cons_zero, List.set_cons_succ, List.replicate, Nat.reduceAdd, Nat.reduceSub, List.append_nil, dName, true_and, and_true, Nat.zero_add, Nat.sub_self]
      refine ⟨wide_mul (a := 30) (b := 8) (by omega) (by decide) (by decide) (by decide) (by decide), (by show (999999391 : Int) ≠ 0; decide), hnx _ _ ⟨rfl, _, _, rfl, ?_, ?_⟩⟩
      · rw [Int.fmod_eq_emod_of_nonneg _ (by decide)]
        exact Int.emod_nonneg _ (by decide)
      · rw [Int.fmod_eq_emod_of_nonneg _ (by decide)]
        exact Int.emod_lt_of_pos _ (by decide)
  | _ => exact h.elim


theorem ok__law_draw  (F : DefF K mg "_law_draw" s__law_draw ["pen", "many"]) (m_len : mg "len" = none) (m_int : mg "int" = none) : DefG P w K mg base "_law_draw" ["pen", "many"] (0 + 1) w__law_draw := by
  exact def_draw (k := 0) F sc__law_draw rfl rfl fun f cdv A outer s H E hg hr => pss_cons (ps_dput hr.room1 (pv 0) pe_str (pe_op op_add (pe_dget hr.room1 (pv 0) pe_str (fun _ _ => rfl)) pe_int) (by rfl))
    (pss_cons (ps_if (pw_and (pt_cmpR op_eq (pe_dget hr.room1 (pv 0) pe_str (fun _ _ => rfl)) pe_int (nomark _)) (pw_and1 (pt_cmpR op_lt (pe_dget hr.room1 (pv 0) pe_str (fun _ _ => rfl)) (pe_callB call_lenA (by rfl) m_len (by decide +kernel) (pa_cons (pe_dget hr.room1 (pv 0) pe_str (fun _ _ => rfl)) pa_nil)) (nomark _)))).pt
      (pss_cons (ps_set (i := 2) sc__law_draw.nd rfl (.inl rfl) (pe_ix ix_seq (pe_dget hr.room1 (pv 0) pe_str (fun _ _ => rfl)) (pe_dget hr.room1 (pv 0) pe_str (fun _ _ => rfl)) (fun _ _ => rfl)))
        (pss_cons (ps_dput hr.room1 (pv 0) pe_str (pe_op op_add (pe_dget hr.room1 (pv 0) pe_str (fun _ _ => rfl)) pe_int) (by rfl))
          (pss_one (ps_if (pt_cmpR op_ge (pv 2) (pe_op op_pow pe_int pe_int) (nomark _))
            (pss_one (ps_dput hr.room1 (pv 0) pe_str (pe_op op_sub (pv 2) (pe_op op_pow pe_int pe_int)) (by rfl)))
            (pss_one (ps_dput hr.room1 (pv 0) pe_str (pe_op op_modN (pe_callTy call_int1 (by rfl) m_int (by decide +kernel) (pa_cons (pe_op op_add (pe_op op_mulW (pe_dget hr.room1 (pv 0) pe_str (fun _ _ => rfl)) pe_int) (pv 2)) pa_nil)) pe_int) (by rfl)))))))
      pss_nil)
    (pss_cons (ps_if (pt_cmpR op_gt (pe_dget hr.room1 (pv 0) pe_str (fun _ _ => rfl)) pe_int (nomark _))
      (pss_cons (ps_set (i := 3) sc__law_draw.nd rfl (.inl rfl) (pe_op op_modN (pe_callTy call_int1 (by rfl) m_int (by decide +kernel) (pa_cons (pe_dget hr.room1 (pv 0) pe_str (fun _ _ => rfl)) pa_nil)) (pv 1)))
        (pss_cons (ps_dput hr.room1 (pv 0) pe_str (pe_op op_fdivA (pe_dget hr.room1 (pv 0) pe_str (fun _ _ => rfl)) (pv 1)) (by rfl)) (pss_one (ps_ret (pv 3)))))
      pss_nil)
    (pss_cons (ps_set (i := 4) sc__law_draw.nd rfl (.inl rfl) (pe_op op_add (pe_op op_add (pe_dget hr.room1 (pv 0) pe_str (fun _ _ => rfl)) (pe_op op_mulW (pe_dget hr.room1 (pv 0) pe_str (fun _ _ => rfl)) pe_int)) pe_int))
    (pss_one (ps_ret (pe_op op_modN (pe_op op_fdivA (pe_callTy call_int1 (by rfl) m_int (by decide +kernel) (pa_cons (pe_op op_modN (pe_op op_pow (pv 4) pe_int) pe_int) pa_nil)) pe_int) (pv 1)))))))

theorem ok__law_pick  (F : DefF K mg "_law_pick" s__law_pick ["pen", "some"]) (h__law_draw : DefG P w K mg base "_law_draw" ["pen", "many"] (1) w__law_draw) (m_len : mg "len" = none) : DefG P w K mg base "_law_pick" ["pen", "some"] (1 + 1) w__law_pick := by
  obtain ⟨f__law_draw, d__law_draw, G__law_draw, n__law_draw, q__law_draw, b__law_draw⟩ := h__law_draw.ex
  refine def_ok (k := 1) F sc__law_pick (fun f cdv A outer s H E hg hr => (DSs.one (DS.ret (DE.op2 (fun _ _ _ p q => pe_ix ix_seq p q (fun _ _ => rfl)) sem_ix (DE.var fun _ => pv 1) (DE.call (fun _ => G__law_draw) (fun _ => hg) (fun _ => hr.mono (by omega)) (fun _ => takes_of rfl rfl rfl rfl) (fun _ => by rfl) (fun _ => n__law_draw) (fun _ => q__law_draw) (fun _ => b__law_draw) (DA.cons (DE.var fun _ => pv 0) (DA.cons (DE.opL (fun _ _ ha => pe_callB call_lenA (by rfl) m_len (by decide +kernel) ha) sem_len (DA.cons (DE.var fun _ => pv 1) DA.nil)) DA.nil))))))) fun ds Kd Kx n hl h => ?_
  match ds, hl with
  | [x, y], _ =>
  cases x with
  | pen =>
    cases y with
    | lst es =>
      obtain ⟨⟨h0, h1, h2⟩, hk⟩ := h
      simp only [s_body, s_seq, s_next, s_onE, s_onT, s_asg, s_par, s_for, s_raise, s_try, s_asgG, w_bind, w_pure, w_need, w_fail, w_calm, g_0, g_s, fEq_int, fNe_int, fEq_str, fNe_str, fInt_at, fInt0_at, fAdd_int, fCmp_at, fNeg_at, fLen_tup, fLen_lst, fIx_t0, fIx_l0, fIx_t1, fIx_l1, fIntC_at, fAbs_at, fGcd_at, fRepr_at, fBits_at, fIs_at, range_at, List.map_cons, List.map_nil, List.length_cons, List.length_nil, List.cons_append, List.nil_append, List.set_cons_zero, List.set_cons_succ, List.replicate, Nat.reduceAdd, Nat.reduceSub, List.append_nil, dName, true_and, and_true, Nat.zero_add, Nat.sub_self]
      refine ⟨by omega, by omega, h2, fun r r0 r1 => ?_⟩
      have hlt : r.toNat < es.length := by omega
      have e : L2.atI es r = some es[r.toNat] := by
        unfold L2.atI L2.ixN
        rw [if_pos r0, if_pos (by omega)]
        simp [hlt]
      show (match L2.atI es r with
        | some d => (pure d : Wm D)
        | none => Wm.fail) _ _ _
      rw [e]
      exact hk _ (List.getElem_mem hlt)
    | _ => exact h.elim
  | _ => exact h.elim


theorem ok__law_is_int  (F : DefF K mg "_law_is_int" s__law_is_int ["thing"]) (m_bool : mg "bool" = none) (m_isinstance : mg "isinstance" = none) (m_int : mg "int" = none) : DefG P w K mg base "_law_is_int" ["thing"] (0 + 1) w__law_is_int := by
  refine def_ok (k := 0) F sc__law_is_int (fun f cdv A outer s H E hg hr => (DSs.one (DS.ret (DE.and (DE.isi1 (fun _ => rfl) (fun _ => pe_bltn (v := .ty "int") (by rfl) m_int (by decide +kernel) rfl) (.ty "int") (fun _ => by rfl) (fun _ => m_isinstance) (DE.var fun _ => pv 0)) (DE.one (DE.not (DE.isi1 (fun _ => rfl) (fun _ => pe_bltn (v := .ty "bool") (by rfl) m_bool (by decide +kernel) rfl) (.ty "bool") (fun _ => by rfl) (fun _ => m_isinstance) (DE.var fun _ => pv 0)))))))) fun ds Kd Kx n hl h => ?_
  match ds, hl with
  | [d], _ =>
  obtain ⟨hb, hk⟩ := h
  simp only [g_tup2, g_tup3, fNotN_at, fIsN_at, List.getElem?_cons_succ, List.getElem?_cons_zero, s_par3, s_lc, fCut_at, fAdd_lst, fAdd_tup, fList_lst, fList_tup, fTuple_lst, fMul_lst, items_lst, items_tup, range2_at, zip_at, s_body, s_seq, s_next, s_onE, s_onT, s_asg, s_par, s_for, s_raise, s_try, s_asgG, w_bind, w_pure, w_need, w_fail, w_calm, g_0, g_s, fEq_int, fNe_int, fEq_str, fNe_str, fInt_at, fInt0_at, fAdd_int, fCmp_at, fNeg_at, fLen_tup, fLen_lst, fIx_t0, fIx_l0, fIx_t1, fIx_l1, fIntC_at, fAbs_at, fGcd_at, fRepr_at, fBits_at, fIs_at, range_at, List.map_cons, List.map_nil, List.length_cons, List.length_nil, List.cons_append, List.nil_append, List.set_cons_zero, List.set_cons_succ, List.replicate, Nat.reduceAdd, Nat.reduceSub, List.append_nil, dName, true_and, and_true, Nat.zero_add, Nat.sub_self]
  rw [isi_int hb]
  cases d <;> simp only [intB] <;> first | exact hk | (simp only [g_tup2, g_tup3, fNotN_at, fIsN_at, List.getElem?_cons_succ, List.getElem?_cons_zero, s_par3, s_lc, fCut_at, fAdd_lst, fAdd_tup, fList_lst, fList_tup, fTuple_lst, fMul_lst, items_lst, items_tup, range2_at, zip_at, s_body, s_seq, s_next, s_onE, s_onT, s_asg, s_par, s_for, s_raise, s_try, s_asgG, w_bind, w_pure, w_need, w_fail, w_calm, g_0, g_s, fEq_int, fNe_int, fEq_str, fNe_str, fInt_at, fInt0_at, fAdd_int, fCmp_at, fNeg_at, fLen_tup, fLen_lst, fIx_t0, fIx_l0, fIx_t1, fIx_l1, fIntC_at, fAbs_at, fGcd_at, fRepr_at, fBits_at, fIs_at, range_at, List.map_cons, List.map_nil, List.length_cons, List.length_nil, List.cons_append, List.nil_append, List.set_cons_zero, List.set_cons_succ, List.replicate, Nat.reduceAdd, Nat.reduceSub, List.append_nil, dName, true_and, and_true, Nat.zero_add, Nat.sub_self]; rw [isi_bool hb]; exact hk)


theorem ok__law_gcd  (F : DefF K mg "_law_gcd" s__law_gcd ["one", "two"]) (m_range : mg "range" = none) (m_int : mg "int" = none) (m_abs : mg "abs" = none) : DefG P w K mg base "_law_gcd" ["one", "two"] (0 + 1) w__law_gcd := by
  refine def_ok (k := 0) F sc__law_gcd (fun f cdv A outer s H E hg hr => (DSs.cons (DS.par (i := 0) (j := 1) (fun _ => rfl) (fun _ => sc__law_gcd.nd) (fun _ => rfl) (fun _ => rfl) (by decide) (fun _ => rfl) (fun _ => rfl) (DA.cons (DE.opL (fun _ _ ha => pe_callB call_abs (by rfl) m_abs (by decide +kernel) ha) sem_abs (DA.cons (DE.var fun _ => pv 0) DA.nil)) (DA.cons (DE.opL (fun _ _ ha => pe_callB call_abs (by rfl) m_abs (by decide +kernel) ha) sem_abs (DA.cons (DE.var fun _ => pv 1) DA.nil)) DA.nil)) (fun _ => by rfl))
    (DSs.cons (DS.for (fun _ => passes_of rfl) (fun _ => rfl) (DI.range1 (fun _ => by rfl) (fun _ => m_range) (DA.cons (DE.op2 (fun _ _ _ p q => pe_op op_addA p q) sem_add DE.int (DE.op2 (fun _ _ _ p q => pe_op op_mulW p q) sem_int DE.int (DE.bits (DE.opL (fun _ _ ha => pe_callTy call_int1 (by rfl) m_int (by decide +kernel) ha) sem_intC (DA.cons (DE.var fun _ => pv 1) DA.nil))))) DA.nil)) (DG.name (k := 2) (fun _ => pg_name sc__law_gcd.nd rfl (.inl rfl))) (DSs.cons (DS.ifS (DT.cmp (fun _ => op_eqA hr.units) sem_eqA (DE.var fun _ => pv 1) DE.int) (DSs.one DS.brk) DSs.nil)
    (DSs.one (DS.par (i := 0) (j := 1) (fun _ => rfl) (fun _ => sc__law_gcd.nd) (fun _ => rfl) (fun _ => rfl) (by decide) (fun _ => rfl) (fun _ => rfl) (DA.cons (DE.var fun _ => pv 1) (DA.cons (DE.op2 (fun _ _ _ p q => pe_op op_modA p q) sem_int (DE.opL (fun _ _ ha => pe_callTy call_int1 (by rfl) m_int (by decide +kernel) ha) sem_intC (DA.cons (DE.var fun _ => pv 0) DA.nil)) (DE.var fun _ => pv 1)) DA.nil)) (fun _ => by rfl)))))
    (DSs.one (DS.ret (DE.var fun _ => pv 0)))))) fun ds Kd Kx n hl h => ?_
  match ds, hl with
  | [x, y], _ =>
  cases x with
  | int a =>
    cases y with
    | int b =>
      obtain ⟨⟨ha, hb⟩, hk⟩ := h
      simp only [s_body, s_seq, s_next, s_onE, s_onT, s_asg, s_par, s_for, s_raise, s_try, s_asgG, w_bind, w_pure, w_need, w_fail, w_calm, g_0, g_s, fEq_int, fNe_int, fEq_str, fNe_str, fInt_at, fInt0_at, fAdd_int, fCmp_at, fNeg_at, fLen_tup, fLen_lst, fIx_t0, fIx_l0, fIx_t1, fIx_l1, fIntC_at, fAbs_at, fGcd_at, fRepr_at, fBits_at, fIs_at, range_at, List.map_cons, List.map_nil, List.length_cons, List.length_nil, List.cons_append, List.nil_append, List.set_cons_zero, List.set_cons_succ, List.replicate, Nat.reduceAdd, Nat.reduceSub, List.append_nil, dName, true_and, and_true, Nat.zero_add, Nat.sub_self]
      have e1 : (if a < 0 then -a else a) = ((a.natAbs : Nat) : Int) := by split <;> omega
      have e2 : (if b < 0 then -b else b) = ((b.natAbs : Nat) : Int) := by split <;> omega
      rw [e1, e2]
      have hbit : Builtin.Int.intBits ((b.natAbs : Nat) : Int) ≤ 200 := bits_le (by decide) (show ((b.natAbs : Nat) : Int).natAbs < 2 ^ 200 from hb)
      have hlt := bits_lt ((b.natAbs : Nat) : Int)
      generalize Builtin.Int.intBits ((b.natAbs : Nat) : Int) = B at hbit hlt
      refine ⟨wide_mul (a := 2) (b := 8) (by decide) (by omega) (by decide) (by decide) (by decide), ⟨by omega, by omega⟩, ?_⟩
      have hn0 : (4 + 2 * (B : Int)).toNat = 2 * B + 4 := by omega
      rw [hn0]
      have hst : Eu (Nat.gcd a.natAbs b.natAbs) (2 * B + 4) a.natAbs b.natAbs := ⟨rfl, .inr (.inr ⟨by omega, by
        have hlt : b.natAbs < 2 ^ B := by simpa using hlt
        have h1 : b.natAbs * b.natAbs < 2 ^ B * 2 ^ B := Nat.mul_lt_mul'' hlt hlt
        have h2 : 2 ^ B * 2 ^ B = 2 ^ (B + B) := (Nat.pow_add 2 B B).symm
        have h3 : 2 ^ (B + B) ≤ 2 ^ (2 * B + 4 - 1) := Nat.pow_le_pow_right (by decide) (by omega)
        omega⟩)⟩
      have hlen : (rangeD 0 (2 * B + 4)).length = 2 * B + 4 := by simp [rangeD]
      refine forD_inv (fun k ρ n' => n' = n ∧ ∃ (p q : Nat) (z : Option SV), ρ = [some (.d (.int (p : Int))), some (.d (.int (q : Int))), z] ∧ Eu (Nat.gcd a.natAbs b.natAbs) k p q) _ _ _ ⟨rfl, _, _, _, rfl, by rw [hlen]; exact hst⟩ (fun ρ n' hi => ?_) fun k d ρ n' E' hd hi hnx hbk hrt hex => ?_
      · obtain ⟨rfl, p, q, z, rfl, he⟩ := hi
        obtain ⟨_, rfl⟩ := eu_end he
        simp only [s_body, s_seq, s_next, s_onE, s_onT, s_asg, s_par, s_for, s_raise, s_try, s_asgG, w_bind, w_pure, w_need, w_fail, w_calm, g_0, g_s, fEq_int, fNe_int, fEq_str, fNe_str, fInt_at, fInt0_at, fAdd_int, fCmp_at, fNeg_at, fLen_tup, fLen_lst, fIx_t0, fIx_l0, fIx_t1, fIx_l1, fIntC_at, fAbs_at, fGcd_at, fRepr_at, fBits_at, fIs_at, range_at, List.map_cons, List.map_nil, List.length_cons, List.length_nil, List.cons_append, List.nil_append, List.set_cons_zero, List.set_cons_succ, List.replicate, Nat.reduceAdd, Nat.reduceSub, List.append_nil, dName, true_and, and_true, Nat.zero_add, Nat.sub_self]
        exact hk
      · obtain ⟨rfl, p, q, z, rfl, he⟩ := hi
        simp only [s_body, s_seq, s_next, s_onE, s_onT, s_asg, s_par, s_for, s_raise, s_try, s_asgG, w_bind, w_pure, w_need, w_fail, w_calm, g_0, g_s, fEq_int, fNe_int, fEq_str, fNe_str, fInt_at, fInt0_at, fAdd_int, fCmp_at, fNeg_at, fLen_tup, fLen_lst, fIx_t0, fIx_l0, fIx_t1, fIx_l1, fIntC_at, fAbs_at, fGcd_at, fRepr_at, fBits_at, fIs_at, range_at, List.map_cons, List.map_nil, List.length_cons, List.length_nil, List.cons_append, List.nil_append, List.set_cons_zero, List.set_cons_succ, List.replicate, Nat.reduceAdd, Nat.reduceSub, List.append_nil, dName, true_and, and_true, Nat.zero_add, Nat.sub_self]
        by_cases hq : q = 0
        · subst hq
          refine ifT (by simp) (hbk _ _ ?_)
          obtain ⟨_, rfl⟩ := eu_end (eu_stop he)
          simp only [s_body, s_seq, s_next, s_onE, s_onT, s_asg, s_par, s_for, s_raise, s_try, s_asgG, w_bind, w_pure, w_need, w_fail, w_calm, g_0, g_s, fEq_int, fNe_int, fEq_str, fNe_str, fInt_at, fInt0_at, fAdd_int, fCmp_at, fNeg_at, fLen_tup, fLen_lst, fIx_t0, fIx_l0, fIx_t1, fIx_l1, fIntC_at, fAbs_at, fGcd_at, fRepr_at, fBits_at, fIs_at, range_at, List.map_cons, List.map_nil, List.length_cons, List.length_nil, List.cons_append, List.nil_append, List.set_cons_zero, List.set_cons_succ, List.replicate, Nat.reduceAdd, Nat.reduceSub, List.append_nil, dName, true_and, and_true, Nat.zero_add, Nat.sub_self]
          exact hk
        · refine ifF (by simp; omega) ?_
          refine ⟨(by show ((q : Nat) : Int) ≠ 0; omega), hnx _ _ ⟨rfl, q, p % q, some (.d d), ?_, eu_step hq he⟩⟩
          rw [Int.fmod_eq_emod_of_nonneg _ (by omega)]
          rfl
    | _ => exact h.elim
  | _ => exact h.elim


theorem ok__law_q  (F : DefF K mg "_law_q" s__law_q ["top", "bottom"]) (h__law_gcd : DefG P w K mg base "_law_gcd" ["one", "two"] (1) w__law_gcd) : DefG P w K mg base "_law_q" ["top", "bottom"] (1 + 1) w__law_q := by
  obtain ⟨f__law_gcd, d__law_gcd, G__law_gcd, n__law_gcd, q__law_gcd, b__law_gcd⟩ := h__law_gcd.ex
  refine def_ok (k := 1) F sc__law_q (fun f cdv A outer s H E hg hr => (DSs.cons (DS.set (k := 2) (fun _ => sc__law_q.nd) (fun _ => rfl) (fun _ => (.inl rfl)) (DE.call (fun _ => G__law_gcd) (fun _ => hg) (fun _ => hr.mono (by omega)) (fun _ => takes_of rfl rfl rfl rfl) (fun _ => by rfl) (fun _ => n__law_gcd) (fun _ => q__law_gcd) (fun _ => b__law_gcd) (DA.cons (DE.var fun _ => pv 0) (DA.cons (DE.var fun _ => pv 1) DA.nil))))
    (DSs.cons (DS.set (k := 2) (fun _ => sc__law_q.nd) (fun _ => rfl) (fun _ => (.inl rfl)) (DE.ifExp (DT.cmp (fun _ => op_lt) sem_cmpI (DE.var fun _ => pv 1) DE.int) (DE.op1 (fun _ _ p => pe_un un_neg p) sem_neg (DE.var fun _ => pv 2)) (DE.var fun _ => pv 2)))
    (DSs.one (DS.ret (DE.tup (DA.cons (DE.op2 (fun _ _ _ p q => pe_op op_fdivA p q) sem_int (DE.var fun _ => pv 0) (DE.var fun _ => pv 2)) (DA.cons (DE.op2 (fun _ _ _ p q => pe_op op_fdivA p q) sem_int (DE.var fun _ => pv 1) (DE.var fun _ => pv 2)) DA.nil)))))))) fun ds Kd Kx n hl h => ?_
  match ds, hl with
  | [x, y], _ =>
  cases x with
  | int t =>
    cases y with
    | int b =>
      obtain ⟨⟨hT, hB, hb⟩, hk⟩ := h
      have hg0 : (Nat.gcd t.natAbs b.natAbs) ≠ 0 := fun e => hb (by have := Nat.eq_zero_of_gcd_eq_zero_right e; omega)
      have hg1 : (Nat.gcd t.natAbs b.natAbs) ≤ b.natAbs := Nat.gcd_le_right _ (by omega)
      have hlg : ∀ g : Int, g.natAbs = Nat.gcd t.natAbs b.natAbs → CDivA t g ∧ CDivA b g := fun g e => by
        have e1 : g ≠ 0 := by omega
        have e2 : g.natAbs.log2 < 9000 := Nat.lt_of_lt_of_le (PySem.Flt.log2_lt_of (n := g.natAbs) (k := 200) (by decide) (Nat.lt_of_le_of_lt (by rw [e]; exact hg1) hB)) (by decide)
        exact ⟨⟨e1, e2⟩, ⟨e1, e2⟩⟩
      simp only [s_body, s_seq, s_next, s_onE, s_onT, s_asg, s_par, s_for, s_raise, s_try, s_asgG, w_bind, w_pure, w_need, w_fail, w_calm, g_0, g_s, fEq_int, fNe_int, fEq_str, fNe_str, fInt_at, fInt0_at, fAdd_int, fCmp_at, fNeg_at, fLen_tup, fLen_lst, fIx_t0, fIx_l0, fIx_t1, fIx_l1, fIntC_at, fAbs_at, fGcd_at, fRepr_at, fBits_at, fIs_at, range_at, List.map_cons, List.map_nil, List.length_cons, List.length_nil, List.cons_append, List.nil_append, List.set_cons_zero, List.set_cons_succ, List.replicate, Nat.reduceAdd, Nat.reduceSub, List.append_nil, dName, true_and, and_true, Nat.zero_add, Nat.sub_self]
      refine ⟨⟨hT, hB⟩, ?_⟩
      by_cases hp : b < 0
      · have e : prD (lowI t b) = .tup [.int (t.fdiv (-(Nat.gcd t.natAbs b.natAbs : Nat))), .int (b.fdiv (-(Nat.gcd t.natAbs b.natAbs : Nat)))] := by
          unfold prD lowI
          rw [if_neg (by omega)]
        rw [e] at hk
        simp only [hp, decide_true, if_true]
        simp only [s_body, s_seq, s_next, s_onE, s_onT, s_asg, s_par, s_for, s_raise, s_try, s_asgG, w_bind, w_pure, w_need, w_fail, w_calm, g_0, g_s, fEq_int, fNe_int, fEq_str, fNe_str, fInt_at, fInt0_at, fAdd_int, fCmp_at, fNeg_at, fLen_tup, fLen_lst, fIx_t0, fIx_l0, fIx_t1, fIx_l1, fIntC_at, fAbs_at, fGcd_at, fRepr_at, fBits_at, fIs_at, range_at, List.map_cons, List.map_nil, List.length_cons, List.length_nil, List.cons_append, List.nil_append, List.set_cons_zero, List.set_cons_succ, List.replicate, Nat.reduceAdd, Nat.reduceSub, List.append_nil, dName, true_and, and_true, Nat.zero_add, Nat.sub_self]
        exact ⟨(hlg _ (by simp)).1, (hlg _ (by simp)).2, fits_small (by decide), hk⟩
      · have e : prD (lowI t b) = .tup [.int (t.fdiv (Nat.gcd t.natAbs b.natAbs : Nat)), .int (b.fdiv (Nat.gcd t.natAbs b.natAbs : Nat))] := by
          unfold prD lowI
          rw [if_pos (by omega)]
        rw [e] at hk
        simp only [hp, decide_false, Bool.false_eq_true, if_false]
        simp only [s_body, s_seq, s_next, s_onE, s_onT, s_asg, s_par, s_for, s_raise, s_try, s_asgG, w_bind, w_pure, w_need, w_fail, w_calm, g_0, g_s, fEq_int, fNe_int, fEq_str, fNe_str, fInt_at, fInt0_at, fAdd_int, fCmp_at, fNeg_at, fLen_tup, fLen_lst, fIx_t0, fIx_l0, fIx_t1, fIx_l1, fIntC_at, fAbs_at, fGcd_at, fRepr_at, fBits_at, fIs_at, range_at, List.map_cons, List.map_nil, List.length_cons, List.length_nil, List.cons_append, List.nil_append, List.set_cons_zero, List.set_cons_succ, List.replicate, Nat.reduceAdd, Nat.reduceSub, List.append_nil, dName, true_and, and_true, Nat.zero_add, Nat.sub_self]
        exact ⟨(hlg _ (by simp)).1, (hlg _ (by simp)).2, fits_small (by decide), hk⟩
    | _ => exact h.elim
  | _ => exact h.elim


theorem ok__law_root  (F : DefF K mg "_law_root" s__law_root ["ratio"]) : DefG P w K mg base "_law_root" ["ratio"] (0 + 1) w__law_root := by
  refine def_ok (k := 0) F sc__law_root (fun f cdv A outer s H E hg hr => (DSs.cons (DS.ifS (DT.cmp (fun _ => op_lt) sem_cmpI (DE.op2 (fun _ _ _ p q => pe_ix ix_seq p q (fun _ _ => rfl)) sem_ix (DE.var fun _ => pv 0) DE.int) DE.int) (DSs.one (DS.ret DE.non)) DSs.nil)
    (DSs.cons (DS.own (k := 1) (fun _ => sc__law_root.nd) (fun _ => rfl) (fun _ => (.inl rfl)) DA.nil)
    (DSs.cons (DS.for (fun _ => passes_of rfl) (fun _ => rfl) (DI.seq (fun _ => rfl) (DE.var fun _ => pv 0)) (DG.name (k := 2) (fun _ => pg_name sc__law_root.nd rfl (.inl rfl))) (DSs.cons (DS.par (i := 3) (j := 4) (fun _ => rfl) (fun _ => sc__law_root.nd) (fun _ => rfl) (fun _ => rfl) (by decide) (fun _ => rfl) (fun _ => rfl) (DA.cons DE.int (DA.cons (DE.op2 (fun _ _ _ p q => pe_op op_addA p q) sem_add (DE.var fun _ => pv 2) DE.int) DA.nil)) (fun _ => by rfl))
    (DSs.cons (DS.while (fun _ => passes_of rfl) (DT.cmp (fun _ => op_gt) sem_cmpI (DE.op2 (fun _ _ _ p q => pe_op op_sub p q) sem_int0 (DE.var fun _ => pv 4) (DE.var fun _ => pv 3)) DE.int) (DSs.cons (DS.set (k := 5) (fun _ => sc__law_root.nd) (fun _ => rfl) (fun _ => (.inl rfl)) (DE.op2 (fun _ _ _ p q => pe_op op_fdivA p q) sem_int (DE.op2 (fun _ _ _ p q => pe_op op_addA p q) sem_add (DE.var fun _ => pv 3) (DE.var fun _ => pv 4)) DE.int))
    (DSs.one (DS.asg (DE.ifExp (DT.cmp (fun _ => op_le) sem_cmpI (DE.op2 (fun _ _ _ p q => pe_op op_mulW p q) sem_int (DE.var fun _ => pv 5) (DE.var fun _ => pv 5)) (DE.var fun _ => pv 2)) (DE.tup (DA.cons (DE.var fun _ => pv 5) (DA.cons (DE.var fun _ => pv 4) DA.nil))) (DE.tup (DA.cons (DE.var fun _ => pv 3) (DA.cons (DE.var fun _ => pv 5) DA.nil)))) (DG.tup (m := 2) (fun _ => rfl) (fun _ => rfl) (DGs.cons (DG.name (k := 3) (fun _ => pg_name sc__law_root.nd rfl (.inl rfl))) (DGs.cons (DG.name (k := 4) (fun _ => pg_name sc__law_root.nd rfl (.inl rfl))) DGs.nil)))))))
    (DSs.one (DS.append (k := 1) (fun _ => rfl) (fun _ => pv 1) (DE.var fun _ => pv 3) (fun _ _ ha => pe_bm PySem.F.plainAttrs_list PySem.F.slot_list_append PySem.F.type_list_append mt_append (pv 1) ha))))))
    (DSs.freeze 1 (DSs.one (DS.ret (DE.ifExp (DW.pt (DW.and (DT.cmp (fun _ => op_eqA hr.units) sem_eqA (DE.op2 (fun _ _ _ p q => pe_op op_mulW p q) sem_int (DE.op2 (fun _ _ _ p q => pe_ix ix_seq p q (fun _ _ => rfl)) sem_ix (DE.var fun _ => pv 1) DE.int) (DE.op2 (fun _ _ _ p q => pe_ix ix_seq p q (fun _ _ => rfl)) sem_ix (DE.var fun _ => pv 1) DE.int)) (DE.op2 (fun _ _ _ p q => pe_ix ix_seq p q (fun _ _ => rfl)) sem_ix (DE.var fun _ => pv 0) DE.int)) (DW.and1 (DT.cmp (fun _ => op_eqA hr.units) sem_eqA (DE.op2 (fun _ _ _ p q => pe_op op_mulW p q) sem_int (DE.op2 (fun _ _ _ p q => pe_ix ix_seq p q (fun _ _ => rfl)) sem_ix (DE.var fun _ => pv 1) DE.int) (DE.op2 (fun _ _ _ p q => pe_ix ix_seq p q (fun _ _ => rfl)) sem_ix (DE.var fun _ => pv 1) DE.int)) (DE.op2 (fun _ _ _ p q => pe_ix ix_seq p q (fun _ _ => rfl)) sem_ix (DE.var fun _ => pv 0) DE.int))))) (DE.tup (DA.cons (DE.op2 (fun _ _ _ p q => pe_ix ix_seq p q (fun _ _ => rfl)) sem_ix (DE.var fun _ => pv 1) DE.int) (DA.cons (DE.op2 (fun _ _ _ p q => pe_ix ix_seq p q (fun _ _ => rfl)) sem_ix (DE.var fun _ => pv 1) DE.int) DA.nil))) DE.non)))))))) fun ds Kd Kx n hl h => ?_
  obtain ⟨a, b, rfl, ⟨ha, hb, hb0⟩, hk⟩ := h
  simp only [g_tup2, g_tup3, fNotN_at, fIsN_at, List.getElem?_cons_succ, List.getElem?_cons_zero, s_par3, s_lc, fCut_at, fAdd_lst, fAdd_tup, fList_lst, fList_tup, fTuple_lst, fMul_lst, items_lst, items_tup, range2_at, zip_at, s_body, s_seq, s_next, s_onE, s_onT, s_asg, s_par, s_for, s_raise, s_try, s_asgG, w_bind, w_pure, w_need, w_fail, w_calm, g_0, g_s, fEq_int, fNe_int, fEq_str, fNe_str, fInt_at, fInt0_at, fAdd_int, fCmp_at, fNeg_at, fLen_tup, fLen_lst, fIx_t0, fIx_l0, fIx_t1, fIx_l1, fIntC_at, fAbs_at, fGcd_at, fRepr_at, fBits_at, fIs_at, range_at, List.map_cons, List.map_nil, List.length_cons, List.length_nil, List.cons_append, List.nil_append, List.set_cons_zero, List.set_cons_succ, List.replicate, Nat.reduceAdd, Nat.reduceSub, List.append_nil, dName, true_and, and_true, Nat.zero_add, Nat.sub_self]
  unfold rootQ at hk
  by_cases h0 : a < 0
  · rw [if_pos h0] at hk
    exact ifT (by simpa using h0) hk
  · rw [if_neg h0] at hk
    refine ifF (by simpa using h0) ?_
    refine own_intro ?_
    simp only [g_tup2, g_tup3, fNotN_at, fIsN_at, List.getElem?_cons_succ, List.getElem?_cons_zero, s_par3, s_lc, fCut_at, fAdd_lst, fAdd_tup, fList_lst, fList_tup, fTuple_lst, fMul_lst, items_lst, items_tup, range2_at, zip_at, s_body, s_seq, s_next, s_onE, s_onT, s_asg, s_par, s_for, s_raise, s_try, s_asgG, w_bind, w_pure, w_need, w_fail, w_calm, g_0, g_s, fEq_int, fNe_int, fEq_str, fNe_str, fInt_at, fInt0_at, fAdd_int, fCmp_at, fNeg_at, fLen_tup, fLen_lst, fIx_t0, fIx_l0, fIx_t1, fIx_l1, fIntC_at, fAbs_at, fGcd_at, fRepr_at, fBits_at, fIs_at, range_at, List.map_cons, List.map_nil, List.length_cons, List.length_nil, List.cons_append, List.nil_append, List.set_cons_zero, List.set_cons_succ, List.replicate, Nat.reduceAdd, Nat.reduceSub, List.append_nil, dName, true_and, and_true, Nat.zero_add, Nat.sub_self]
    refine ⟨fits_small (by simp), ?_⟩
    refine forD_map D.int (fun xs ρ n' => n' = n ∧ ∃ (done : List Int) (z2 z3 z4 z5 : Option SV), done ++ xs = [a, b] ∧ ρ = [some (.d (.tup [.int a, .int b])), some (.ml (done.map fun i => D.int (isq i))), z2, z3, z4, z5]) [a, b] _ _ ⟨rfl, [], _, _, _, _, rfl, rfl⟩ ?_ ?_
    · intro ρ n' hi
      obtain ⟨rfl, done, z2, z3, z4, z5, he, rfl⟩ := hi
      rw [List.append_nil] at he
      subst he
      simp only [List.map_cons, List.map_nil]
      refine frz_intro rfl ?_
      have hw : ∀ c : Int, c.natAbs < 2 ^ 1000 → CMulW (isq c) (isq c) := fun c hc => by
        have h1 : (isq c).natAbs < 2 ^ 1001 := by
          have e : 2 ^ 1001 = 2 ^ 1000 + 2 ^ 1000 := by rw [Nat.pow_succ]; omega
          have : 0 < 2 ^ 1000 := Nat.two_pow_pos _
          have b : (isq c).natAbs ≤ c.natAbs + 1 := by
            unfold isq
            by_cases h : c < 0
            · rw [show c.toNat = 0 by omega]
              unfold bis bis
              split
              · split <;> omega
              · simp
            · have := bis_le (c.toNat + 1) c 0 (c + 1) (by decide) (by omega)
              omega
          rw [e]
          omega
        exact wide_mul (a := 1001) (b := 1001) h1 h1 (by decide) (by decide) (by decide)
      simp only [g_tup2, g_tup3, fNotN_at, fIsN_at, List.getElem?_cons_succ, List.getElem?_cons_zero, s_par3, s_lc, fCut_at, fAdd_lst, fAdd_tup, fList_lst, fList_tup, fTuple_lst, fMul_lst, items_lst, items_tup, range2_at, zip_at, s_body, s_seq, s_next, s_onE, s_onT, s_asg, s_par, s_for, s_raise, s_try, s_asgG, w_bind, w_pure, w_need, w_fail, w_calm, g_0, g_s, fEq_int, fNe_int, fEq_str, fNe_str, fInt_at, fInt0_at, fAdd_int, fCmp_at, fNeg_at, fLen_tup, fLen_lst, fIx_t0, fIx_l0, fIx_t1, fIx_l1, fIntC_at, fAbs_at, fGcd_at, fRepr_at, fBits_at, fIs_at, range_at, List.map_cons, List.map_nil, List.length_cons, List.length_nil, List.cons_append, List.nil_append, List.set_cons_zero, List.set_cons_succ, List.replicate, Nat.reduceAdd, Nat.reduceSub, List.append_nil, dName, true_and, and_true, Nat.zero_add, Nat.sub_self]
      refine ⟨hw a ha, ?_⟩
      by_cases h1 : isq a * isq a = a
      · rw [decide_eq_true h1]
        try rw [w_ite]
        refine ifT rfl ?_
        try simp only [g_tup2, g_tup3, fNotN_at, fIsN_at, List.getElem?_cons_succ, List.getElem?_cons_zero, s_par3, s_lc, fCut_at, fAdd_lst, fAdd_tup, fList_lst, fList_tup, fTuple_lst, fMul_lst, items_lst, items_tup, range2_at, zip_at, s_body, s_seq, s_next, s_onE, s_onT, s_asg, s_par, s_for, s_raise, s_try, s_asgG, w_bind, w_pure, w_need, w_fail, w_calm, g_0, g_s, fEq_int, fNe_int, fEq_str, fNe_str, fInt_at, fInt0_at, fAdd_int, fCmp_at, fNeg_at, fLen_tup, fLen_lst, fIx_t0, fIx_l0, fIx_t1, fIx_l1, fIntC_at, fAbs_at, fGcd_at, fRepr_at, fBits_at, fIs_at, range_at, List.map_cons, List.map_nil, List.length_cons, List.length_nil, List.cons_append, List.nil_append, List.set_cons_zero, List.set_cons_succ, List.replicate, Nat.reduceAdd, Nat.reduceSub, List.append_nil, dName, true_and, and_true, Nat.zero_add, Nat.sub_self]
        refine ⟨hw b hb, ?_⟩
        by_cases h2 : isq b * isq b = b
        · rw [decide_eq_true h2]
          rw [if_pos ⟨h1, h2⟩] at hk
          try rw [w_ite]
          try refine ifT rfl ?_
          try simp only [g_tup2, g_tup3, fNotN_at, fIsN_at, List.getElem?_cons_succ, List.getElem?_cons_zero, s_par3, s_lc, fCut_at, fAdd_lst, fAdd_tup, fList_lst, fList_tup, fTuple_lst, fMul_lst, items_lst, items_tup, range2_at, zip_at, s_body, s_seq, s_next, s_onE, s_onT, s_asg, s_par, s_for, s_raise, s_try, s_asgG, w_bind, w_pure, w_need, w_fail, w_calm, g_0, g_s, fEq_int, fNe_int, fEq_str, fNe_str, fInt_at, fInt0_at, fAdd_int, fCmp_at, fNeg_at, fLen_tup, fLen_lst, fIx_t0, fIx_l0, fIx_t1, fIx_l1, fIntC_at, fAbs_at, fGcd_at, fRepr_at, fBits_at, fIs_at, range_at, List.map_cons, List.map_nil, List.length_cons, List.length_nil, List.cons_append, List.nil_append, List.set_cons_zero, List.set_cons_succ, List.replicate, Nat.reduceAdd, Nat.reduceSub, List.append_nil, dName, true_and, and_true, Nat.zero_add, Nat.sub_self]
          exact ⟨fits_small (by simp), hk⟩
        · rw [decide_eq_false h2]
          rw [if_neg (fun z => h2 z.2)] at hk
          try rw [w_ite]
          try refine ifF (by simp) ?_
          try simp only [g_tup2, g_tup3, fNotN_at, fIsN_at, List.getElem?_cons_succ, List.getElem?_cons_zero, s_par3, s_lc, fCut_at, fAdd_lst, fAdd_tup, fList_lst, fList_tup, fTuple_lst, fMul_lst, items_lst, items_tup, range2_at, zip_at, s_body, s_seq, s_next, s_onE, s_onT, s_asg, s_par, s_for, s_raise, s_try, s_asgG, w_bind, w_pure, w_need, w_fail, w_calm, g_0, g_s, fEq_int, fNe_int, fEq_str, fNe_str, fInt_at, fInt0_at, fAdd_int, fCmp_at, fNeg_at, fLen_tup, fLen_lst, fIx_t0, fIx_l0, fIx_t1, fIx_l1, fIntC_at, fAbs_at, fGcd_at, fRepr_at, fBits_at, fIs_at, range_at, List.map_cons, List.map_nil, List.length_cons, List.length_nil, List.cons_append, List.nil_append, List.set_cons_zero, List.set_cons_succ, List.replicate, Nat.reduceAdd, Nat.reduceSub, List.append_nil, dName, true_and, and_true, Nat.zero_add, Nat.sub_self]
          exact hk
      · rw [decide_eq_false h1]
        rw [if_neg (fun z => h1 z.1)] at hk
        try rw [w_ite]
        try refine ifF (by simp) ?_
        try simp only [g_tup2, g_tup3, fNotN_at, fIsN_at, List.getElem?_cons_succ, List.getElem?_cons_zero, s_par3, s_lc, fCut_at, fAdd_lst, fAdd_tup, fList_lst, fList_tup, fTuple_lst, fMul_lst, items_lst, items_tup, range2_at, zip_at, s_body, s_seq, s_next, s_onE, s_onT, s_asg, s_par, s_for, s_raise, s_try, s_asgG, w_bind, w_pure, w_need, w_fail, w_calm, g_0, g_s, fEq_int, fNe_int, fEq_str, fNe_str, fInt_at, fInt0_at, fAdd_int, fCmp_at, fNeg_at, fLen_tup, fLen_lst, fIx_t0, fIx_l0, fIx_t1, fIx_l1, fIntC_at, fAbs_at, fGcd_at, fRepr_at, fBits_at, fIs_at, range_at, List.map_cons, List.map_nil, List.length_cons, List.length_nil, List.cons_append, List.nil_append, List.set_cons_zero, List.set_cons_succ, List.replicate, Nat.reduceAdd, Nat.reduceSub, List.append_nil, dName, true_and, and_true, Nat.zero_add, Nat.sub_self]
        try rw [w_ite]
        try refine ifF (by simp) ?_
        try simp only [g_tup2, g_tup3, fNotN_at, fIsN_at, List.getElem?_cons_succ, List.getElem?_cons_zero, s_par3, s_lc, fCut_at, fAdd_lst, fAdd_tup, fList_lst, fList_tup, fTuple_lst, fMul_lst, items_lst, items_tup, range2_at, zip_at, s_body, s_seq, s_next, s_onE, s_onT, s_asg, s_par, s_for, s_raise, s_try, s_asgG, w_bind, w_pure, w_need, w_fail, w_calm, g_0, g_s, fEq_int, fNe_int, fEq_str, fNe_str, fInt_at, fInt0_at, fAdd_int, fCmp_at, fNeg_at, fLen_tup, fLen_lst, fIx_t0, fIx_l0, fIx_t1, fIx_l1, fIntC_at, fAbs_at, fGcd_at, fRepr_at, fBits_at, fIs_at, range_at, List.map_cons, List.map_nil, List.length_cons, List.length_nil, List.cons_append, List.nil_append, List.set_cons_zero, List.set_cons_succ, List.replicate, Nat.reduceAdd, Nat.reduceSub, List.append_nil, dName, true_and, and_true, Nat.zero_add, Nat.sub_self]
        exact hk
    · intro x xs ρ n' E' hi hnx hrt hex
      obtain ⟨rfl, done, z2, z3, z4, z5, he, rfl⟩ := hi
      have hx : 0 ≤ x ∧ x.natAbs < 2 ^ 1000 ∧ done.length ≤ 1 := by
        match done, he with
        | [], he => cases he; exact ⟨by omega, ha, by simp⟩
        | [_], he => cases he; exact ⟨hb0, hb, by simp⟩
        | _ :: _ :: r, he => simp at he
      obtain ⟨x0, xb, hd1⟩ := hx
      simp only [g_tup2, g_tup3, fNotN_at, fIsN_at, List.getElem?_cons_succ, List.getElem?_cons_zero, s_par3, s_lc, fCut_at, fAdd_lst, fAdd_tup, fList_lst, fList_tup, fTuple_lst, fMul_lst, items_lst, items_tup, range2_at, zip_at, s_body, s_seq, s_next, s_onE, s_onT, s_asg, s_par, s_for, s_raise, s_try, s_asgG, w_bind, w_pure, w_need, w_fail, w_calm, g_0, g_s, fEq_int, fNe_int, fEq_str, fNe_str, fInt_at, fInt0_at, fAdd_int, fCmp_at, fNeg_at, fLen_tup, fLen_lst, fIx_t0, fIx_l0, fIx_t1, fIx_l1, fIntC_at, fAbs_at, fGcd_at, fRepr_at, fBits_at, fIs_at, range_at, List.map_cons, List.map_nil, List.length_cons, List.length_nil, List.cons_append, List.nil_append, List.set_cons_zero, List.set_cons_succ, List.replicate, Nat.reduceAdd, Nat.reduceSub, List.append_nil, dName, true_and, and_true, Nat.zero_add, Nat.sub_self]
      refine ⟨x.toNat + 2, whileD_inv (fun m ρ n'' => n'' = n' ∧ ∃ (low high : Int) (z : Option SV), ρ = [some (.d (.tup [.int a, .int b])), some (.ml (done.map fun i => D.int (isq i))), some (.d (.int x)), some (.d (.int low)), some (.d (.int high)), z] ∧ 0 ≤ low ∧ low ≤ high ∧ high ≤ x + 1 ∧ high - low ≤ m ∧ bis m x low high = isq x) (fun m ρ n'' E'' hi hnx2 hbk2 hrt2 hex2 => ?_) (x.toNat + 1) _ _ ⟨rfl, 0, x + 1, _, rfl, by omega, by omega, by omega, by omega, rfl⟩ _ (by omega)⟩
      obtain ⟨rfl, low, high, z, rfl, l0, l1, l2, l3, l4⟩ := hi
      have hsz : ∀ c : Int, 0 ≤ c → c ≤ x + 1 → CMulW c c := fun c a0 a1 => by
        have h1 : c.natAbs < 2 ^ 1001 := by
          have : c.natAbs ≤ x.natAbs + 1 := by omega
          have e : 2 ^ 1001 = 2 ^ 1000 + 2 ^ 1000 := by rw [Nat.pow_succ]; omega
          have : 0 < 2 ^ 1000 := Nat.two_pow_pos _
          rw [e]
          omega
        exact wide_mul (a := 1001) (b := 1001) h1 h1 (by decide) (by decide) (by decide)
      simp only [g_tup2, g_tup3, fNotN_at, fIsN_at, List.getElem?_cons_succ, List.getElem?_cons_zero, s_par3, s_lc, fCut_at, fAdd_lst, fAdd_tup, fList_lst, fList_tup, fTuple_lst, fMul_lst, items_lst, items_tup, range2_at, zip_at, s_body, s_seq, s_next, s_onE, s_onT, s_asg, s_par, s_for, s_raise, s_try, s_asgG, w_bind, w_pure, w_need, w_fail, w_calm, g_0, g_s, fEq_int, fNe_int, fEq_str, fNe_str, fInt_at, fInt0_at, fAdd_int, fCmp_at, fNeg_at, fLen_tup, fLen_lst, fIx_t0, fIx_l0, fIx_t1, fIx_l1, fIntC_at, fAbs_at, fGcd_at, fRepr_at, fBits_at, fIs_at, range_at, List.map_cons, List.map_nil, List.length_cons, List.length_nil, List.cons_append, List.nil_append, List.set_cons_zero, List.set_cons_succ, List.replicate, Nat.reduceAdd, Nat.reduceSub, List.append_nil, dName, true_and, and_true, Nat.zero_add, Nat.sub_self]
      by_cases hc : 1 < high - low
      · refine ifT (by simpa using hc) ?_
        have hm0 : m ≠ 0 := by omega
        obtain ⟨m', rfl⟩ : ∃ m', m = m' + 1 := ⟨m - 1, by omega⟩
        unfold bis at l4
        rw [if_pos hc] at l4
        have e : (low + high).fdiv 2 = (low + high) / 2 := Int.fdiv_eq_ediv_of_nonneg _ (by decide)
        refine ⟨⟨by decide, by decide⟩, hsz _ (by rw [e]; omega) (by rw [e]; omega), ?_⟩
        by_cases hq : (low + high).fdiv 2 * (low + high).fdiv 2 ≤ x
        · rw [if_pos hq] at l4
          try rw [w_ite]
          refine ifT (by simpa using hq) ?_
          try simp only [g_tup2, g_tup3, fNotN_at, fIsN_at, List.getElem?_cons_succ, List.getElem?_cons_zero, s_par3, s_lc, fCut_at, fAdd_lst, fAdd_tup, fList_lst, fList_tup, fTuple_lst, fMul_lst, items_lst, items_tup, range2_at, zip_at, s_body, s_seq, s_next, s_onE, s_onT, s_asg, s_par, s_for, s_raise, s_try, s_asgG, w_bind, w_pure, w_need, w_fail, w_calm, g_0, g_s, fEq_int, fNe_int, fEq_str, fNe_str, fInt_at, fInt0_at, fAdd_int, fCmp_at, fNeg_at, fLen_tup, fLen_lst, fIx_t0, fIx_l0, fIx_t1, fIx_l1, fIntC_at, fAbs_at, fGcd_at, fRepr_at, fBits_at, fIs_at, range_at, List.map_cons, List.map_nil, List.length_cons, List.length_nil, List.cons_append, List.nil_append, List.set_cons_zero, List.set_cons_succ, List.replicate, Nat.reduceAdd, Nat.reduceSub, List.append_nil, dName, true_and, and_true, Nat.zero_add, Nat.sub_self]
          refine ⟨fits_small (by simp), ?_⟩
          exact (hnx2 m' _ _ (by omega) ⟨rfl, _, _, _, rfl, by rw [e]; omega, by rw [e]; omega, by omega, by rw [e]; omega, l4⟩).1
        · rw [if_neg hq] at l4
          try rw [w_ite]
          refine ifF (by simpa using hq) ?_
          try simp only [g_tup2, g_tup3, fNotN_at, fIsN_at, List.getElem?_cons_succ, List.getElem?_cons_zero, s_par3, s_lc, fCut_at, fAdd_lst, fAdd_tup, fList_lst, fList_tup, fTuple_lst, fMul_lst, items_lst, items_tup, range2_at, zip_at, s_body, s_seq, s_next, s_onE, s_onT, s_asg, s_par, s_for, s_raise, s_try, s_asgG, w_bind, w_pure, w_need, w_fail, w_calm, g_0, g_s, fEq_int, fNe_int, fEq_str, fNe_str, fInt_at, fInt0_at, fAdd_int, fCmp_at, fNeg_at, fLen_tup, fLen_lst, fIx_t0, fIx_l0, fIx_t1, fIx_l1, fIntC_at, fAbs_at, fGcd_at, fRepr_at, fBits_at, fIs_at, range_at, List.map_cons, List.map_nil, List.length_cons, List.length_nil, List.cons_append, List.nil_append, List.set_cons_zero, List.set_cons_succ, List.replicate, Nat.reduceAdd, Nat.reduceSub, List.append_nil, dName, true_and, and_true, Nat.zero_add, Nat.sub_self]
          refine ⟨fits_small (by simp), ?_⟩
          exact (hnx2 m' _ _ (by omega) ⟨rfl, _, _, _, rfl, by omega, by rw [e]; omega, by rw [e]; omega, by rw [e]; omega, l4⟩).1
      · refine ifF (by simpa using hc) ?_
        have e : bis m x low high = low := by
          cases m with
          | zero => rfl
          | succ m => unfold bis; rw [if_neg hc]
        rw [e] at l4
        subst l4
        try simp only [g_tup2, g_tup3, fNotN_at, fIsN_at, List.getElem?_cons_succ, List.getElem?_cons_zero, s_par3, s_lc, fCut_at, fAdd_lst, fAdd_tup, fList_lst, fList_tup, fTuple_lst, fMul_lst, items_lst, items_tup, range2_at, zip_at, s_body, s_seq, s_next, s_onE, s_onT, s_asg, s_par, s_for, s_raise, s_try, s_asgG, w_bind, w_pure, w_need, w_fail, w_calm, g_0, g_s, fEq_int, fNe_int, fEq_str, fNe_str, fInt_at, fInt0_at, fAdd_int, fCmp_at, fNeg_at, fLen_tup, fLen_lst, fIx_t0, fIx_l0, fIx_t1, fIx_l1, fIntC_at, fAbs_at, fGcd_at, fRepr_at, fBits_at, fIs_at, range_at, List.map_cons, List.map_nil, List.length_cons, List.length_nil, List.cons_append, List.nil_append, List.set_cons_zero, List.set_cons_succ, List.replicate, Nat.reduceAdd, Nat.reduceSub, List.append_nil, dName, true_and, and_true, Nat.zero_add, Nat.sub_self]
        refine app_intro rfl ?_
        try simp only [g_tup2, g_tup3, fNotN_at, fIsN_at, List.getElem?_cons_succ, List.getElem?_cons_zero, s_par3, s_lc, fCut_at, fAdd_lst, fAdd_tup, fList_lst, fList_tup, fTuple_lst, fMul_lst, items_lst, items_tup, range2_at, zip_at, s_body, s_seq, s_next, s_onE, s_onT, s_asg, s_par, s_for, s_raise, s_try, s_asgG, w_bind, w_pure, w_need, w_fail, w_calm, g_0, g_s, fEq_int, fNe_int, fEq_str, fNe_str, fInt_at, fInt0_at, fAdd_int, fCmp_at, fNeg_at, fLen_tup, fLen_lst, fIx_t0, fIx_l0, fIx_t1, fIx_l1, fIntC_at, fAbs_at, fGcd_at, fRepr_at, fBits_at, fIs_at, range_at, List.map_cons, List.map_nil, List.length_cons, List.length_nil, List.cons_append, List.nil_append, List.set_cons_zero, List.set_cons_succ, List.replicate, Nat.reduceAdd, Nat.reduceSub, List.append_nil, dName, true_and, and_true, Nat.zero_add, Nat.sub_self]
        refine ⟨fits_small (by simp; omega), hnx _ _ ⟨rfl, done ++ [x], some (.d (.int x)), some (.d (.int (isq x))), some (.d (.int high)), z, by rw [List.append_assoc]; exact he, by rw [List.map_append]; rfl⟩⟩


theorem ok__law_fault  (F : DefF K mg "_law_fault" s__law_fault ["work"]) (mC_Unlike : mg "Unlike" = some (.ref C_Unlike)) (X_Unlike : XfC K C_Unlike) (no_Unlike : ∀ y, (y, true) ∈ it_Unlike → PySem.W.findIn K (.ref C_Unlike) y = some none) (mC_TooMany : mg "TooMany" = some (.ref C_TooMany)) (X_TooMany : XfC K C_TooMany) (no_TooMany : ∀ y, (y, true) ∈ it_TooMany → PySem.W.findIn K (.ref C_TooMany) y = some none) (mC_BadRow : mg "BadRow" = some (.ref C_BadRow)) (X_BadRow : XfC K C_BadRow) (no_BadRow : ∀ y, (y, true) ∈ it_BadRow → PySem.W.findIn K (.ref C_BadRow) y = some none) (mC_BadPoly : mg "BadPoly" = some (.ref C_BadPoly)) (X_BadPoly : XfC K C_BadPoly) (no_BadPoly : ∀ y, (y, true) ∈ it_BadPoly → PySem.W.findIn K (.ref C_BadPoly) y = some none) (mC_BadNumber : mg "BadNumber" = some (.ref C_BadNumber)) (X_BadNumber : XfC K C_BadNumber) (no_BadNumber : ∀ y, (y, true) ∈ it_BadNumber → PySem.W.findIn K (.ref C_BadNumber) y = some none) (xNN : PySem.W.exmOne K (.ref C_BadNumber) (.ref C_BadNumber) = some true) (xRN : PySem.W.exmOne K (.ref C_BadRow) (.ref C_BadNumber) = some false) (xRP : PySem.W.exmOne K (.ref C_BadRow) (.ref C_BadPoly) = some false) (xRR : PySem.W.exmOne K (.ref C_BadRow) (.ref C_BadRow) = some true) : DefG P w K mg base "_law_fault" ["work"] (19 + 1) (w_fault P w K mg base 19 C_BadRow C_BadNumber) := by
  refine def_ok (k := 19) F sc__law_fault (fun f cdv A outer s H E hg hr => (DSs.cons (DS.tryC (i := 1) (cl := [(C_BadNumber, [("number", false), ("what", true), ("number", true)]), (C_BadPoly, [("poly", false), ("value", true)]), (C_BadRow, [("row", false), ("row", true)]), (C_TooMany, [("many", false), ("what", true), ("many", true), ("limit", true)]), (C_Unlike, [("unlike", false), ("what", true)])]) (fun _ => rfl) (fun _ => rfl) (fun _ => rfl) (fun _ => sc__law_fault.nd) (fun _ => rfl) (fun _ => rfl) (fun _ => takes_of rfl rfl rfl rfl) (fun _ => (DSs.one (DS.expr (DE.act (fun _ => ⟨rfl, rfl, rfl, rfl, rfl⟩) (fun _ => hg) (fun _ => hr) (fun p => p.2) (fun _ => pv 0))))) (fun _ => (.cons ⟨by rfl, by decide, .inl mC_BadNumber⟩ (fun _ _ _ _ _ hz hf => pss_one (ps_ret (pe_tup (pa_items (.str (.fld rfl (.inl rfl) (by decide) (by decide) (.fld rfl (.inl rfl) (by decide) (by decide) .nil))) X_BadNumber hz hf no_BadNumber)))) (.cons ⟨by rfl, by decide, .inl mC_BadPoly⟩ (fun _ _ _ _ _ hz hf => pss_one (ps_ret (pe_tup (pa_items (.str (.fld rfl (.inl rfl) (by decide) (by decide) .nil)) X_BadPoly hz hf no_BadPoly)))) (.cons ⟨by rfl, by decide, .inl mC_BadRow⟩ (fun _ _ _ _ _ hz hf => pss_one (ps_ret (pe_tup (pa_items (.str (.fld rfl (.inl rfl) (by decide) (by decide) .nil)) X_BadRow hz hf no_BadRow)))) (.cons ⟨by rfl, by decide, .inl mC_TooMany⟩ (fun _ _ _ _ _ hz hf => pss_one (ps_ret (pe_tup (pa_items (.str (.fld rfl (.inl rfl) (by decide) (by decide) (.fld rfl (.inl rfl) (by decide) (by decide) (.fld rfl (.inl rfl) (by decide) (by decide) .nil)))) X_TooMany hz hf no_TooMany)))) (.cons ⟨by rfl, by decide, .inl mC_Unlike⟩ (fun _ _ _ _ _ hz hf => pss_one (ps_ret (pe_tup (pa_items (.str (.fld rfl (.inl rfl) (by decide) (by decide) .nil)) X_Unlike hz hf no_Unlike)))) .nil)))))))
    (DSs.one (DS.ret DE.non)))) fun ds Kd Kx n hl h => ?_
  obtain ⟨r, cs, m, rfl, hc, hm⟩ := h
  simp only [s_body, s_seq, s_next, s_onE, s_onT, s_asg, s_par, s_for, s_raise, s_try, s_asgG, w_bind, w_pure, w_need, w_fail, w_calm, g_0, g_s, fEq_int, fNe_int, fEq_str, fNe_str, fInt_at, fInt0_at, fAdd_int, fCmp_at, fNeg_at, fLen_tup, fLen_lst, fIx_t0, fIx_l0, fIx_t1, fIx_l1, fIntC_at, fAbs_at, fGcd_at, fRepr_at, fBits_at, fIs_at, range_at, List.map_cons, List.map_nil, List.length_cons, List.length_nil, List.cons_append, List.nil_append, List.set_cons_zero, List.set_cons_succ, List.replicate, Nat.reduceAdd, Nat.reduceSub, List.append_nil, dName, true_and, and_true, Nat.zero_add, Nat.sub_self]
  have key : ∀ (x : XD) (n' : Nat), (∃ d, faultX C_BadRow C_BadNumber x d ∧ Kd d n') → (1 < 2 ∧ dClauses K { nx := fun x n' => Kd D.non n', rt := Kd, ex := fun x x_1 n' => Kx x n' } x [some (SV.d (D.clo true r cs)), none] n'
          [(C_BadNumber, it_BadNumber), (C_BadPoly, it_BadPoly), (C_BadRow, it_BadRow), (C_TooMany, it_TooMany), (C_Unlike, it_Unlike)]) := by
    rintro x n' ⟨d, ⟨e, rfl, rfl⟩ | ⟨a, b, rfl, rfl⟩, hk⟩
    · exact ⟨by decide, false, xRN, nofun, fun _ => ⟨false, xRP, nofun, fun _ => ⟨true, xRR, fun _ => ⟨rfl, _, items1, fits_small (by simp), hk⟩, nofun⟩⟩⟩
    · exact ⟨by decide, true, xNN, fun _ => ⟨rfl, _, items2 (by decide), fits_small (by simp), hk⟩, nofun⟩
  exact ⟨m, hc, hm _ key⟩


theorem ok__law_are_due  (F : DefF K mg "_law_are_due" s__law_are_due ["tries"]) (m_all : mg "all" = none) (m_repr : mg "repr" = none) (h__law_fault : DefG P w K mg base "_law_fault" ["work"] (20) (w_fault P w K mg base 19 C_BadRow C_BadNumber)) : DefG P w K mg base "_law_are_due" ["tries"] (20 + 1) (w_due P w K mg base 19 C_BadRow C_BadNumber) := by
  obtain ⟨f__law_fault, d__law_fault, G__law_fault, n__law_fault, q__law_fault, b__law_fault⟩ := h__law_fault.ex
  refine def_ok (k := 20) F sc__law_are_due (fun f cdv A outer s H E hg hr => (DSs.one (DS.ret (DE.opL (fun _ _ ha => pe_callB (cr_all rfl) (by rfl) m_all (by decide +kernel) ha) sem_all (DA.cons (DE.lc (own := [("work", 1), ("due", 2)]) (fun _ => rfl) (fun _ => sc__law_are_due.nd) (DI.seq (fun _ => rfl) (DE.var fun _ => pv 0)) (fun _ => blkOk_by (N := ["tries", "work", "due"]) (sc := defScope s__law_are_due) (by decide +kernel)) (DG.tup (m := 2) (fun _ => rfl) (fun _ => rfl) (DGs.cons (DG.name (k := 1) (fun _ => pg_name sc__law_are_due.nd rfl (.inl rfl))) (DGs.cons (DG.name (k := 2) (fun _ => pg_name sc__law_are_due.nd rfl (.inl rfl))) DGs.nil))) DTs.nil (DE.cmp (fun _ => op_eqA hr.units) sem_eqA (DE.opL (fun _ _ ha => pe_callB (call_reprD hg hr.units) (by rfl) m_repr (by decide +kernel) ha) sem_repr (DA.cons (DE.call (fun _ => G__law_fault) (fun _ => hg) (fun _ => hr.mono (by omega)) (fun _ => L2.takes0) (fun _ => by rfl) (fun _ => n__law_fault) (fun _ => q__law_fault) (fun _ => b__law_fault) (DA.cons (DE.var fun _ => pv 1) DA.nil)) DA.nil)) (DE.opL (fun _ _ ha => pe_callB (call_reprD hg hr.units) (by rfl) m_repr (by decide +kernel) ha) sem_repr (DA.cons (DE.var fun _ => pv 2) DA.nil)))) DA.nil))))) fun ds Kd Kx n hl h => ?_
  obtain ⟨ts, rfl, hlen, hts, hk⟩ := h
  simp only [s_body, s_seq, s_next, s_onE, s_onT, s_asg, s_par, s_for, s_raise, s_try, s_asgG, w_bind, w_pure, w_need, w_fail, w_calm, g_0, g_s, fEq_int, fNe_int, fEq_str, fNe_str, fInt_at, fInt0_at, fAdd_int, fCmp_at, fNeg_at, fLen_tup, fLen_lst, fIx_t0, fIx_l0, fIx_t1, fIx_l1, fIntC_at, fAbs_at, fGcd_at, fRepr_at, fBits_at, fIs_at, range_at, List.map_cons, List.map_nil, List.length_cons, List.length_nil, List.cons_append, List.nil_append, List.set_cons_zero, List.set_cons_succ, List.replicate, Nat.reduceAdd, Nat.reduceSub, List.append_nil, dName, true_and, and_true, Nat.zero_add, Nat.sub_self]
  refine lcD_const (y0 := .bl true) ts [] _ (by rw [sizeLine_eq]; simp; omega) (fun t ht => ?_) ?_
  · obtain ⟨r, cs, m, d, rfl, hc, hd, hm⟩ := hts t ht
    refine ⟨[some (.d (.lst ts)), some (.d (.clo true r cs)), some (.d d)], rfl, fun K' hK => ?_⟩
    simp only [s_body, s_seq, s_next, s_onE, s_onT, s_asg, s_par, s_for, s_raise, s_try, s_asgG, w_bind, w_pure, w_need, w_fail, w_calm, g_0, g_s, fEq_int, fNe_int, fEq_str, fNe_str, fInt_at, fInt0_at, fAdd_int, fCmp_at, fNeg_at, fLen_tup, fLen_lst, fIx_t0, fIx_l0, fIx_t1, fIx_l1, fIntC_at, fAbs_at, fGcd_at, fRepr_at, fBits_at, fIs_at, range_at, List.map_cons, List.map_nil, List.length_cons, List.length_nil, List.cons_append, List.nil_append, List.set_cons_zero, List.set_cons_succ, List.replicate, Nat.reduceAdd, Nat.reduceSub, List.append_nil, dName, true_and, and_true, Nat.zero_add, Nat.sub_self]
    refine ⟨r, cs, m, rfl, hc, fun Kx hKx => hm _ _ fun x hx => hKx x n ⟨d, hx, ?_⟩⟩
    simp only [s_body, s_seq, s_next, s_onE, s_onT, s_asg, s_par, s_for, s_raise, s_try, s_asgG, w_bind, w_pure, w_need, w_fail, w_calm, g_0, g_s, fEq_int, fNe_int, fEq_str, fNe_str, fInt_at, fInt0_at, fAdd_int, fCmp_at, fNeg_at, fLen_tup, fLen_lst, fIx_t0, fIx_l0, fIx_t1, fIx_l1, fIntC_at, fAbs_at, fGcd_at, fRepr_at, fBits_at, fIs_at, range_at, List.map_cons, List.map_nil, List.length_cons, List.length_nil, List.cons_append, List.nil_append, List.set_cons_zero, List.set_cons_succ, List.replicate, Nat.reduceAdd, Nat.reduceSub, List.append_nil, dName, true_and, and_true, Nat.zero_add, Nat.sub_self]
    refine ⟨hd, hd, ?_⟩
    simpa using hK
  · show (match boolsOf (List.replicate ts.length (.bl true)) with
      | some bs => (pure (.bl (bs.all id)) : Wm D)
      | none => Wm.fail) _ _ _
    rw [bools_rep]
    have e : (List.replicate ts.length true).all id = true := by simp
    show Kd (.bl ((List.replicate ts.length true).all id)) n
    rw [e]
    exact hk


theorem ok__law_says  (F : DefF K mg "_law_says" s__law_says ["told", "due"]) (m_bool : mg "bool" = none) (m_isinstance : mg "isinstance" = none) : DefG P w K mg base "_law_says" ["told", "due"] (0 + 1) w__law_says := by
  refine def_ok (k := 0) F sc__law_says (fun f cdv A outer s H E hg hr => (DSs.one (DS.ret (DE.and (DE.isi1 (fun _ => rfl) (fun _ => pe_bltn (v := .ty "bool") (by rfl) m_bool (by decide +kernel) rfl) (.ty "bool") (fun _ => by rfl) (fun _ => m_isinstance) (DE.var fun _ => pv 0)) (DE.one (DE.cmp (fun _ => op_eqA hr.units) sem_eqA (DE.var fun _ => pv 0) (DE.var fun _ => pv 1))))))) fun ds Kd Kx n hl h => ?_
  match ds, hl with
  | [a, b], _ =>
  cases a with
  | bl x =>
    cases b with
    | bl y =>
      have hk : Kd (.bl (decide (x = y))) n := h
      simp only [g_tup2, g_tup3, fNotN_at, fIsN_at, List.getElem?_cons_succ, List.getElem?_cons_zero, s_par3, s_lc, fCut_at, fAdd_lst, fAdd_tup, fList_lst, fList_tup, fTuple_lst, fMul_lst, items_lst, items_tup, range2_at, zip_at, s_body, s_seq, s_next, s_onE, s_onT, s_asg, s_par, s_for, s_raise, s_try, s_asgG, w_bind, w_pure, w_need, w_fail, w_calm, g_0, g_s, fEq_int, fNe_int, fEq_str, fNe_str, fInt_at, fInt0_at, fAdd_int, fCmp_at, fNeg_at, fLen_tup, fLen_lst, fIx_t0, fIx_l0, fIx_t1, fIx_l1, fIntC_at, fAbs_at, fGcd_at, fRepr_at, fBits_at, fIs_at, range_at, List.map_cons, List.map_nil, List.length_cons, List.length_nil, List.cons_append, List.nil_append, List.set_cons_zero, List.set_cons_succ, List.replicate, Nat.reduceAdd, Nat.reduceSub, List.append_nil, dName, true_and, and_true, Nat.zero_add, Nat.sub_self]
      rw [isi_bool (d := .bl x) rfl]
      have e : PyData.eqv (.bool x) (.bool y) = decide (x = y) := by cases x <;> cases y <;> decide
      first
        | exact hk
        | (refine fEq_data ?_ ?_ ?_ <;> first | exact hk | (rw [show eqD (.bl x) (.bl y) = decide (x = y) from e]; exact hk) | exact ⟨rfl, rfl⟩ | trivial)
    | _ => exact h.elim
  | _ => exact h.elim


theorem ok__law_lists {j : Nat} (F : DefF K mg "_law_lists" s__law_lists ["thing"]) (m_tuple : mg "tuple" = none) (m_isinstance : mg "isinstance" = none) (h__law_lists : DefG P w K mg base "_law_lists" ["thing"] (j + 1) (w__law_lists j)) : DefG P w K mg base "_law_lists" ["thing"] (j + 1 + 1) (w__law_lists (j + 1)) := by
  obtain ⟨f__law_lists, d__law_lists, G__law_lists, n__law_lists, q__law_lists, b__law_lists⟩ := h__law_lists.ex
  refine def_ok (k := j + 1) F sc__law_lists (fun f cdv A outer s H E hg hr => (DSs.one (DS.ret (DE.ifExp (DT.val (DE.isi1 (fun _ => rfl) (fun _ => pe_bltn (v := .ty "tuple") (by rfl) m_tuple (by decide +kernel) rfl) (.ty "tuple") (fun _ => by rfl) (fun _ => m_isinstance) (DE.var fun _ => pv 0))) (DE.lc (own := [("item", 1)]) (fun _ => rfl) (fun _ => sc__law_lists.nd) (DI.seq (fun _ => rfl) (DE.var fun _ => pv 0)) (fun _ => blkOk_by (N := ["thing", "item"]) (sc := defScope s__law_lists) (by decide +kernel)) (DG.name (k := 1) (fun _ => pg_name sc__law_lists.nd rfl (.inl rfl))) DTs.nil (DE.call (fun _ => G__law_lists) (fun _ => hg) (fun _ => hr.mono (by omega)) (fun _ => L2.takes0) (fun _ => by rfl) (fun _ => n__law_lists) (fun _ => q__law_lists) (fun _ => b__law_lists) (DA.cons (DE.var fun _ => pv 1) DA.nil))) (DE.var fun _ => pv 0))))) fun ds Kd Kx n hl h => ?_
  match ds, hl with
  | [d], _ =>
  obtain ⟨hb, hk⟩ := h
  simp only [cut_last, fIx_last, dT_succ, lsub, rL_succ, rL_len, List.length_append, rD, g_tup2, g_tup3, fNotN_at, fIsN_at, List.getElem?_cons_succ, List.getElem?_cons_zero, s_par3, s_lc, fCut_at, fAdd_lst, fAdd_tup, fList_lst, fList_tup, fTuple_lst, fMul_lst, items_lst, items_tup, range2_at, zip_at, s_body, s_seq, s_next, s_onE, s_onT, s_asg, s_par, s_for, s_raise, s_try, s_asgG, w_bind, w_pure, w_need, w_fail, w_calm, g_0, g_s, fEq_int, fNe_int, fEq_str, fNe_str, fInt_at, fInt0_at, fAdd_int, fCmp_at, fNeg_at, fLen_tup, fLen_lst, fIx_t0, fIx_l0, fIx_t1, fIx_l1, fIntC_at, fAbs_at, fGcd_at, fRepr_at, fBits_at, fIs_at, range_at, List.map_cons, List.map_nil, List.length_cons, List.length_nil, List.cons_append, List.nil_append, List.set_cons_zero, List.set_cons_succ, List.replicate, Nat.reduceAdd, Nat.reduceSub, List.append_nil, dName, true_and, and_true, Nat.zero_add, Nat.sub_self]
  rw [isi_tuple (okDp_base hb)]
  try simp only [cut_last, fIx_last, dT_succ, lsub, rL_succ, rL_len, List.length_append, rD, g_tup2, g_tup3, fNotN_at, fIsN_at, List.getElem?_cons_succ, List.getElem?_cons_zero, s_par3, s_lc, fCut_at, fAdd_lst, fAdd_tup, fList_lst, fList_tup, fTuple_lst, fMul_lst, items_lst, items_tup, range2_at, zip_at, s_body, s_seq, s_next, s_onE, s_onT, s_asg, s_par, s_for, s_raise, s_try, s_asgG, w_bind, w_pure, w_need, w_fail, w_calm, g_0, g_s, fEq_int, fNe_int, fEq_str, fNe_str, fInt_at, fInt0_at, fAdd_int, fCmp_at, fNeg_at, fLen_tup, fLen_lst, fIx_t0, fIx_l0, fIx_t1, fIx_l1, fIntC_at, fAbs_at, fGcd_at, fRepr_at, fBits_at, fIs_at, range_at, List.map_cons, List.map_nil, List.length_cons, List.length_nil, List.cons_append, List.nil_append, List.set_cons_zero, List.set_cons_succ, List.replicate, Nat.reduceAdd, Nat.reduceSub, List.append_nil, dName, true_and, and_true, Nat.zero_add, Nat.sub_self]
  rw [w_ite]
  cases d with
  | tup es =>
    obtain ⟨h1, h2⟩ := okDp_tup hb
    unfold listed at hk
    rw [listedL_map] at hk
    refine ifT (by simp [tupB]) ?_
    simp only [cut_last, fIx_last, dT_succ, lsub, rL_succ, rL_len, List.length_append, rD, g_tup2, g_tup3, fNotN_at, fIsN_at, List.getElem?_cons_succ, List.getElem?_cons_zero, s_par3, s_lc, fCut_at, fAdd_lst, fAdd_tup, fList_lst, fList_tup, fTuple_lst, fMul_lst, items_lst, items_tup, range2_at, zip_at, s_body, s_seq, s_next, s_onE, s_onT, s_asg, s_par, s_for, s_raise, s_try, s_asgG, w_bind, w_pure, w_need, w_fail, w_calm, g_0, g_s, fEq_int, fNe_int, fEq_str, fNe_str, fInt_at, fInt0_at, fAdd_int, fCmp_at, fNeg_at, fLen_tup, fLen_lst, fIx_t0, fIx_l0, fIx_t1, fIx_l1, fIntC_at, fAbs_at, fGcd_at, fRepr_at, fBits_at, fIs_at, range_at, List.map_cons, List.map_nil, List.length_cons, List.length_nil, List.cons_append, List.nil_append, List.set_cons_zero, List.set_cons_succ, List.replicate, Nat.reduceAdd, Nat.reduceSub, List.append_nil, dName, true_and, and_true, Nat.zero_add, Nat.sub_self]
    refine lcD_map (f := listed) es [] _ (by rw [sizeLine_eq]; simp; omega) (fun t ht => ⟨_, rfl, fun K' hK => ?_⟩) ?_
    · exact ⟨rfl, h2 t ht, hK⟩
    · exact hk
  | lst es => exact hk
  | non => exact hk
  | bl b => exact hk
  | int i => exact hk
  | str x => exact hk
  | _ => cases hb
theorem _law_lists_0 {ds : List D} {Kd : D → Nat → Prop} {Kx : XD → Nat → Prop} {n : Nat} (h : w__law_lists 0 ds Kd Kx n) : False := by
  match ds, h with
  | [d], h => exact absurd h.1 (by simp [okDp])
theorem rec__law_lists (F : DefF K mg "_law_lists" s__law_lists ["thing"]) (m_tuple : mg "tuple" = none) (m_isinstance : mg "isinstance" = none) : DefG P w K mg base "_law_lists" ["thing"] 7 (w__law_lists 6) := by
  have go : ∀ j, DefG P w K mg base "_law_lists" ["thing"] (j + 1) (w__law_lists j) := by
    intro j
    induction j with
    | zero => exact def_false F fun ds Kd Kx n h => _law_lists_0 h
    | succ j ih => exact ok__law_lists (F := F) (m_tuple := m_tuple) (h__law_lists := ih) (m_isinstance := m_isinstance)
  exact go 6

theorem ok__law_either  (F : DefF K mg "_law_either" s__law_either ["pen", "thing"]) (h__law_draw : DefG P w K mg base "_law_draw" ["pen", "many"] (1) w__law_draw) (h__law_lists : DefG P w K mg base "_law_lists" ["thing"] (7) (w__law_lists 6)) : DefG P w K mg base "_law_either" ["pen", "thing"] (7 + 1) w__law_either := by
  obtain ⟨f__law_draw, d__law_draw, G__law_draw, n__law_draw, q__law_draw, b__law_draw⟩ := h__law_draw.ex
  obtain ⟨f__law_lists, d__law_lists, G__law_lists, n__law_lists, q__law_lists, b__law_lists⟩ := h__law_lists.ex
  refine def_ok (k := 7) F sc__law_either (fun f cdv A outer s H E hg hr => (DSs.one (DS.ret (DE.ifExp (DT.cmp (fun _ => op_eqA hr.units) sem_eqA (DE.call (fun _ => G__law_draw) (fun _ => hg) (fun _ => hr.mono (by omega)) (fun _ => takes_of rfl rfl rfl rfl) (fun _ => by rfl) (fun _ => n__law_draw) (fun _ => q__law_draw) (fun _ => b__law_draw) (DA.cons (DE.var fun _ => pv 0) (DA.cons DE.int DA.nil))) DE.int) (DE.var fun _ => pv 1) (DE.call (fun _ => G__law_lists) (fun _ => hg) (fun _ => hr.mono (by omega)) (fun _ => takes_of rfl rfl rfl rfl) (fun _ => by rfl) (fun _ => n__law_lists) (fun _ => q__law_lists) (fun _ => b__law_lists) (DA.cons (DE.var fun _ => pv 1) DA.nil)))))) fun ds Kd Kx n hl h => ?_
  match ds, hl with
  | [x, d], _ =>
  cases x with
  | pen =>
    obtain ⟨⟨hd, hn⟩, h1, h2⟩ := h
    simp only [cut_last, fIx_last, dT_succ, lsub, rL_succ, rL_len, List.length_append, rD, g_tup2, g_tup3, fNotN_at, fIsN_at, List.getElem?_cons_succ, List.getElem?_cons_zero, s_par3, s_lc, fCut_at, fAdd_lst, fAdd_tup, fList_lst, fList_tup, fTuple_lst, fMul_lst, items_lst, items_tup, range2_at, zip_at, s_body, s_seq, s_next, s_onE, s_onT, s_asg, s_par, s_for, s_raise, s_try, s_asgG, w_bind, w_pure, w_need, w_fail, w_calm, g_0, g_s, fEq_int, fNe_int, fEq_str, fNe_str, fInt_at, fInt0_at, fAdd_int, fCmp_at, fNeg_at, fLen_tup, fLen_lst, fIx_t0, fIx_l0, fIx_t1, fIx_l1, fIntC_at, fAbs_at, fGcd_at, fRepr_at, fBits_at, fIs_at, range_at, List.map_cons, List.map_nil, List.length_cons, List.length_nil, List.cons_append, List.nil_append, List.set_cons_zero, List.set_cons_succ, List.replicate, Nat.reduceAdd, Nat.reduceSub, List.append_nil, dName, true_and, and_true, Nat.zero_add, Nat.sub_self]
    refine ⟨by decide, by decide, by omega, fun r r0 r1 => ?_⟩
    try simp only [cut_last, fIx_last, dT_succ, lsub, rL_succ, rL_len, List.length_append, rD, g_tup2, g_tup3, fNotN_at, fIsN_at, List.getElem?_cons_succ, List.getElem?_cons_zero, s_par3, s_lc, fCut_at, fAdd_lst, fAdd_tup, fList_lst, fList_tup, fTuple_lst, fMul_lst, items_lst, items_tup, range2_at, zip_at, s_body, s_seq, s_next, s_onE, s_onT, s_asg, s_par, s_for, s_raise, s_try, s_asgG, w_bind, w_pure, w_need, w_fail, w_calm, g_0, g_s, fEq_int, fNe_int, fEq_str, fNe_str, fInt_at, fInt0_at, fAdd_int, fCmp_at, fNeg_at, fLen_tup, fLen_lst, fIx_t0, fIx_l0, fIx_t1, fIx_l1, fIntC_at, fAbs_at, fGcd_at, fRepr_at, fBits_at, fIs_at, range_at, List.map_cons, List.map_nil, List.length_cons, List.length_nil, List.cons_append, List.nil_append, List.set_cons_zero, List.set_cons_succ, List.replicate, Nat.reduceAdd, Nat.reduceSub, List.append_nil, dName, true_and, and_true, Nat.zero_add, Nat.sub_self]
    rw [w_ite]
    by_cases hr : r = 0
    · refine ifT (by simp [hr]) ?_
      exact h1
    · refine ifF (by simp [hr]) ?_
      exact ⟨rfl, hd, h2⟩
  | _ => exact h.elim


theorem ok__law_drawn {j : Nat} (F : DefF K mg "_law_drawn" s__law_drawn ["pen", "level", "most"]) (h__law_drawn : DefG P w K mg base "_law_drawn" ["pen", "level", "most"] (j + 2) (w__law_drawn j)) (h__law_draw : DefG P w K mg base "_law_draw" ["pen", "many"] (1) w__law_draw) : DefG P w K mg base "_law_drawn" ["pen", "level", "most"] (j + 2 + 1) (w__law_drawn (j + 1)) := by
  obtain ⟨f__law_drawn, d__law_drawn, G__law_drawn, n__law_drawn, q__law_drawn, b__law_drawn⟩ := h__law_drawn.ex
  obtain ⟨f__law_draw, d__law_draw, G__law_draw, n__law_draw, q__law_draw, b__law_draw⟩ := h__law_draw.ex
  refine def_ok (k := j + 2) F sc__law_drawn (fun f cdv A outer s H E hg hr => (DSs.cons (DS.ifS (DT.cmp (fun _ => op_eqA hr.units) sem_eqA (DE.var fun _ => pv 1) DE.int) (DSs.one (DS.ret (DE.op2 (fun _ _ _ p q => pe_op op_sub p q) sem_int0 (DE.call (fun _ => G__law_draw) (fun _ => hg) (fun _ => hr.mono (by omega)) (fun _ => takes_of rfl rfl rfl rfl) (fun _ => by rfl) (fun _ => n__law_draw) (fun _ => q__law_draw) (fun _ => b__law_draw) (DA.cons (DE.var fun _ => pv 0) (DA.cons (DE.op2 (fun _ _ _ p q => pe_op op_addA p q) sem_add (DE.op2 (fun _ _ _ p q => pe_op op_mulW p q) sem_int DE.int (DE.var fun _ => pv 2)) DE.int) DA.nil))) (DE.var fun _ => pv 2)))) DSs.nil)
    (DSs.one (DS.ret (DE.tup (DA.cons (DE.call (fun _ => G__law_drawn) (fun _ => hg) (fun _ => hr.mono (by omega)) (fun _ => takes_of rfl rfl rfl rfl) (fun _ => by rfl) (fun _ => n__law_drawn) (fun _ => q__law_drawn) (fun _ => b__law_drawn) (DA.cons (DE.var fun _ => pv 0) (DA.cons (DE.op2 (fun _ _ _ p q => pe_op op_sub p q) sem_int0 (DE.var fun _ => pv 1) DE.int) (DA.cons (DE.var fun _ => pv 2) DA.nil)))) (DA.cons (DE.call (fun _ => G__law_drawn) (fun _ => hg) (fun _ => hr.mono (by omega)) (fun _ => takes_of rfl rfl rfl rfl) (fun _ => by rfl) (fun _ => n__law_drawn) (fun _ => q__law_drawn) (fun _ => b__law_drawn) (DA.cons (DE.var fun _ => pv 0) (DA.cons (DE.op2 (fun _ _ _ p q => pe_op op_sub p q) sem_int0 (DE.var fun _ => pv 1) DE.int) (DA.cons (DE.var fun _ => pv 2) DA.nil)))) DA.nil))))))) fun ds Kd Kx n hl h => ?_
  obtain ⟨l, m, rfl, ⟨hlj, hl3, m0, m1, hn⟩, hk⟩ := h
  cases l with
  | zero =>
    simp only [cut_last, fIx_last, dT_succ, lsub, rL_succ, rL_len, List.length_append, rD, g_tup2, g_tup3, fNotN_at, fIsN_at, List.getElem?_cons_succ, List.getElem?_cons_zero, s_par3, s_lc, fCut_at, fAdd_lst, fAdd_tup, fList_lst, fList_tup, fTuple_lst, fMul_lst, items_lst, items_tup, range2_at, zip_at, s_body, s_seq, s_next, s_onE, s_onT, s_asg, s_par, s_for, s_raise, s_try, s_asgG, w_bind, w_pure, w_need, w_fail, w_calm, g_0, g_s, fEq_int, fNe_int, fEq_str, fNe_str, fInt_at, fInt0_at, fAdd_int, fCmp_at, fNeg_at, fLen_tup, fLen_lst, fIx_t0, fIx_l0, fIx_t1, fIx_l1, fIntC_at, fAbs_at, fGcd_at, fRepr_at, fBits_at, fIs_at, range_at, List.map_cons, List.map_nil, List.length_cons, List.length_nil, List.cons_append, List.nil_append, List.set_cons_zero, List.set_cons_succ, List.replicate, Nat.reduceAdd, Nat.reduceSub, List.append_nil, dName, true_and, and_true, Nat.zero_add, Nat.sub_self]
    refine ifT (by simp) ?_
    refine ⟨wide_mul (a := 3) (b := 12) (by decide) (by omega) (by decide) (by decide) (by decide), ?_⟩
    have hn : n + 1 ≤ 1000000000 := hn
    refine ⟨by omega, by omega, by omega, fun r r0 r1 => ?_⟩
    exact hk (show T 0 from (r - m : Int)) ⟨by show -m ≤ r - m; omega, by show r - m ≤ m; omega⟩
  | succ l =>
    simp only [cut_last, fIx_last, dT_succ, lsub, rL_succ, rL_len, List.length_append, rD, g_tup2, g_tup3, fNotN_at, fIsN_at, List.getElem?_cons_succ, List.getElem?_cons_zero, s_par3, s_lc, fCut_at, fAdd_lst, fAdd_tup, fList_lst, fList_tup, fTuple_lst, fMul_lst, items_lst, items_tup, range2_at, zip_at, s_body, s_seq, s_next, s_onE, s_onT, s_asg, s_par, s_for, s_raise, s_try, s_asgG, w_bind, w_pure, w_need, w_fail, w_calm, g_0, g_s, fEq_int, fNe_int, fEq_str, fNe_str, fInt_at, fInt0_at, fAdd_int, fCmp_at, fNeg_at, fLen_tup, fLen_lst, fIx_t0, fIx_l0, fIx_t1, fIx_l1, fIntC_at, fAbs_at, fGcd_at, fRepr_at, fBits_at, fIs_at, range_at, List.map_cons, List.map_nil, List.length_cons, List.length_nil, List.cons_append, List.nil_append, List.set_cons_zero, List.set_cons_succ, List.replicate, Nat.reduceAdd, Nat.reduceSub, List.append_nil, dName, true_and, and_true, Nat.zero_add, Nat.sub_self]
    refine ifF (by simp; omega) ?_
    rw [Nat.pow_succ] at hn
    refine ⟨l, m, rfl, ⟨by omega, by omega, m0, m1, by omega⟩, fun x hx => ?_⟩
    refine ⟨l, m, rfl, ⟨by omega, by omega, m0, m1, by omega⟩, fun y hy => ?_⟩
    refine ⟨fits_small (by simp), ?_⟩
    have z := hk (show T (l + 1) from (x, y)) ⟨hx, hy⟩
    rw [Nat.pow_succ, show n + 2 ^ l * 2 = n + 2 ^ l + 2 ^ l by omega] at z
    exact z
theorem rec__law_drawn (F : DefF K mg "_law_drawn" s__law_drawn ["pen", "level", "most"]) (h__law_draw : DefG P w K mg base "_law_draw" ["pen", "many"] 1 w__law_draw) : DefG P w K mg base "_law_drawn" ["pen", "level", "most"] 6 (w__law_drawn 4) := by
  have go : ∀ j, DefG P w K mg base "_law_drawn" ["pen", "level", "most"] (j + 2) (w__law_drawn j) := by
    intro j
    induction j with
    | zero => exact def_false F fun ds Kd Kx n ⟨l, m, h1, h2, h3⟩ => absurd h2.1 (Nat.not_lt_zero _)
    | succ j ih => exact ok__law_drawn (F := F) (h__law_draw := h__law_draw) (h__law_drawn := ih)
  exact go 4

theorem ok__law_zero_of {j : Nat} (F : DefF K mg "_law_zero_of" s__law_zero_of ["level"]) (h__law_zero_of : DefG P w K mg base "_law_zero_of" ["level"] (j + 1) (w__law_zero_of j)) : DefG P w K mg base "_law_zero_of" ["level"] (j + 1 + 1) (w__law_zero_of (j + 1)) := by
  obtain ⟨f__law_zero_of, d__law_zero_of, G__law_zero_of, n__law_zero_of, q__law_zero_of, b__law_zero_of⟩ := h__law_zero_of.ex
  refine def_ok (k := j + 1) F sc__law_zero_of (fun f cdv A outer s H E hg hr => (DSs.one (DS.ret (DE.ifExp (DT.cmp (fun _ => op_eqA hr.units) sem_eqA (DE.var fun _ => pv 0) DE.int) DE.int (DE.tup (DA.cons (DE.call (fun _ => G__law_zero_of) (fun _ => hg) (fun _ => hr.mono (by omega)) (fun _ => takes_of rfl rfl rfl rfl) (fun _ => by rfl) (fun _ => n__law_zero_of) (fun _ => q__law_zero_of) (fun _ => b__law_zero_of) (DA.cons (DE.op2 (fun _ _ _ p q => pe_op op_sub p q) sem_int0 (DE.var fun _ => pv 0) DE.int) DA.nil)) (DA.cons (DE.call (fun _ => G__law_zero_of) (fun _ => hg) (fun _ => hr.mono (by omega)) (fun _ => takes_of rfl rfl rfl rfl) (fun _ => by rfl) (fun _ => n__law_zero_of) (fun _ => q__law_zero_of) (fun _ => b__law_zero_of) (DA.cons (DE.op2 (fun _ _ _ p q => pe_op op_sub p q) sem_int0 (DE.var fun _ => pv 0) DE.int) DA.nil)) DA.nil))))))) fun ds Kd Kx n hl h => ?_
  obtain ⟨l, rfl, hlj, hk⟩ := h
  cases l with
  | zero => exact hk
  | succ l =>
    simp only [cut_last, fIx_last, dT_succ, lsub, rL_succ, rL_len, List.length_append, rD, g_tup2, g_tup3, fNotN_at, fIsN_at, List.getElem?_cons_succ, List.getElem?_cons_zero, s_par3, s_lc, fCut_at, fAdd_lst, fAdd_tup, fList_lst, fList_tup, fTuple_lst, fMul_lst, items_lst, items_tup, range2_at, zip_at, s_body, s_seq, s_next, s_onE, s_onT, s_asg, s_par, s_for, s_raise, s_try, s_asgG, w_bind, w_pure, w_need, w_fail, w_calm, g_0, g_s, fEq_int, fNe_int, fEq_str, fNe_str, fInt_at, fInt0_at, fAdd_int, fCmp_at, fNeg_at, fLen_tup, fLen_lst, fIx_t0, fIx_l0, fIx_t1, fIx_l1, fIntC_at, fAbs_at, fGcd_at, fRepr_at, fBits_at, fIs_at, range_at, List.map_cons, List.map_nil, List.length_cons, List.length_nil, List.cons_append, List.nil_append, List.set_cons_zero, List.set_cons_succ, List.replicate, Nat.reduceAdd, Nat.reduceSub, List.append_nil, dName, true_and, and_true, Nat.zero_add, Nat.sub_self]
    rw [w_ite]
    refine ifF (by simp; omega) ?_
    simp only [cut_last, fIx_last, dT_succ, lsub, rL_succ, rL_len, List.length_append, rD, g_tup2, g_tup3, fNotN_at, fIsN_at, List.getElem?_cons_succ, List.getElem?_cons_zero, s_par3, s_lc, fCut_at, fAdd_lst, fAdd_tup, fList_lst, fList_tup, fTuple_lst, fMul_lst, items_lst, items_tup, range2_at, zip_at, s_body, s_seq, s_next, s_onE, s_onT, s_asg, s_par, s_for, s_raise, s_try, s_asgG, w_bind, w_pure, w_need, w_fail, w_calm, g_0, g_s, fEq_int, fNe_int, fEq_str, fNe_str, fInt_at, fInt0_at, fAdd_int, fCmp_at, fNeg_at, fLen_tup, fLen_lst, fIx_t0, fIx_l0, fIx_t1, fIx_l1, fIntC_at, fAbs_at, fGcd_at, fRepr_at, fBits_at, fIs_at, range_at, List.map_cons, List.map_nil, List.length_cons, List.length_nil, List.cons_append, List.nil_append, List.set_cons_zero, List.set_cons_succ, List.replicate, Nat.reduceAdd, Nat.reduceSub, List.append_nil, dName, true_and, and_true, Nat.zero_add, Nat.sub_self]
    exact ⟨l, rfl, by omega, l, rfl, by omega, fits_small (by simp), hk⟩
theorem rec__law_zero_of (F : DefF K mg "_law_zero_of" s__law_zero_of ["level"]) : DefG P w K mg base "_law_zero_of" ["level"] 5 (w__law_zero_of 4) := by
  have go : ∀ j, DefG P w K mg base "_law_zero_of" ["level"] (j + 1) (w__law_zero_of j) := by
    intro j
    induction j with
    | zero => exact def_false F fun ds Kd Kx n ⟨l, h1, h2, h3⟩ => absurd h2 (Nat.not_lt_zero _)
    | succ j ih => exact ok__law_zero_of (F := F) (h__law_zero_of := ih)
  exact go 4

theorem ok__law_is_number  (F : DefF K mg "_law_is_number" s__law_is_number ["level", "value"]) (m_range : mg "range" = none) (h__law_is_int : DefG P w K mg base "_law_is_int" ["thing"] (1) w__law_is_int) (m_len : mg "len" = none) (m_tuple : mg "tuple" = none) (m_isinstance : mg "isinstance" = none) : DefG P w K mg base "_law_is_number" ["level", "value"] (1 + 1) w__law_is_number := by
  obtain ⟨f__law_is_int, d__law_is_int, G__law_is_int, n__law_is_int, q__law_is_int, b__law_is_int⟩ := h__law_is_int.ex
  refine def_ok (k := 1) F sc__law_is_number (fun f cdv A outer s H E hg hr => (DSs.cons (DS.set (k := 2) (fun _ => sc__law_is_number.nd) (fun _ => rfl) (fun _ => (.inl rfl)) (DE.lst (DA.cons (DE.tup (DA.cons (DE.var fun _ => pv 0) (DA.cons (DE.var fun _ => pv 1) DA.nil))) DA.nil)))
    (DSs.cons (DS.for (fun _ => passes_of rfl) (fun _ => rfl) (DI.range1 (fun _ => by rfl) (fun _ => m_range) (DA.cons DE.int DA.nil)) (DG.name (k := 3) (fun _ => pg_name sc__law_is_number.nd rfl (.inl rfl))) (DSs.cons (DS.ifS (DT.cmp (fun _ => op_eqA hr.units) sem_eqA (DE.var fun _ => pv 2) (DE.cst (.lst []) (by rfl))) (DSs.one (DS.ret DE.bl)) DSs.nil)
    (DSs.cons (DS.asg (DE.tup (DA.cons (DE.op2 (fun _ _ _ p q => pe_ix ix_seq p q (fun _ _ => rfl)) sem_ix (DE.var fun _ => pv 2) DE.int) (DA.cons (DE.sl (fun _ => rfl) (DE.var fun _ => pv 2) (DO.so DE.int) DO.no) DA.nil))) (DG.tup (m := 2) (fun _ => rfl) (fun _ => rfl) (DGs.cons (DG.tup (m := 2) (fun _ => rfl) (fun _ => rfl) (DGs.cons (DG.name (k := 4) (fun _ => pg_name sc__law_is_number.nd rfl (.inl rfl))) (DGs.cons (DG.name (k := 5) (fun _ => pg_name sc__law_is_number.nd rfl (.inl rfl))) DGs.nil))) (DGs.cons (DG.name (k := 2) (fun _ => pg_name sc__law_is_number.nd rfl (.inl rfl))) DGs.nil))))
    (DSs.one (DS.ifS (DT.cmp (fun _ => op_eqA hr.units) sem_eqA (DE.var fun _ => pv 4) DE.int) (DSs.one (DS.ifS (DT.not (DT.val (DE.call (fun _ => G__law_is_int) (fun _ => hg) (fun _ => hr.mono (by omega)) (fun _ => takes_of rfl rfl rfl rfl) (fun _ => by rfl) (fun _ => n__law_is_int) (fun _ => q__law_is_int) (fun _ => b__law_is_int) (DA.cons (DE.var fun _ => pv 5) DA.nil)))) (DSs.one (DS.ret DE.bl)) DSs.nil)) (DSs.one (DS.ifS (DW.pt (DW.or (DT.not (DT.val (DE.isi1 (fun _ => rfl) (fun _ => pe_bltn (v := .ty "tuple") (by rfl) m_tuple (by decide +kernel) rfl) (.ty "tuple") (fun _ => by rfl) (fun _ => m_isinstance) (DE.var fun _ => pv 5)))) (DW.or1 (DT.cmp (fun _ => op_neA hr.units) sem_neA (DE.opL (fun _ _ ha => pe_callB call_lenA (by rfl) m_len (by decide +kernel) ha) sem_len (DA.cons (DE.var fun _ => pv 5) DA.nil)) DE.int)))) (DSs.one (DS.ret DE.bl)) (DSs.one (DS.set (k := 2) (fun _ => sc__law_is_number.nd) (fun _ => rfl) (fun _ => (.inl rfl)) (DE.op2 (fun _ _ _ p q => pe_op op_addA p q) sem_add (DE.var fun _ => pv 2) (DE.lst (DA.cons (DE.tup (DA.cons (DE.op2 (fun _ _ _ p q => pe_op op_sub p q) sem_int0 (DE.var fun _ => pv 4) DE.int) (DA.cons (DE.op2 (fun _ _ _ p q => pe_ix ix_seq p q (fun _ _ => rfl)) sem_ix (DE.var fun _ => pv 5) DE.int) DA.nil))) (DA.cons (DE.tup (DA.cons (DE.op2 (fun _ _ _ p q => pe_op op_sub p q) sem_int0 (DE.var fun _ => pv 4) DE.int) (DA.cons (DE.op2 (fun _ _ _ p q => pe_ix ix_seq p q (fun _ _ => rfl)) sem_ix (DE.var fun _ => pv 5) DE.int) DA.nil))) DA.nil)))))))))))))
    (DSs.one (DS.ret DE.bl))))) fun ds Kd Kx n hl h => ?_
  obtain ⟨l, d, rfl, ⟨hl2, hd, hv⟩, hk⟩ := h
  simp only [g_tup2, g_tup3, fNotN_at, fIsN_at, List.getElem?_cons_succ, List.getElem?_cons_zero, s_par3, s_lc, fCut_at, fAdd_lst, fAdd_tup, fList_lst, fList_tup, fTuple_lst, fMul_lst, items_lst, items_tup, range2_at, zip_at, s_body, s_seq, s_next, s_onE, s_onT, s_asg, s_par, s_for, s_raise, s_try, s_asgG, w_bind, w_pure, w_need, w_fail, w_calm, g_0, g_s, fEq_int, fNe_int, fEq_str, fNe_str, fInt_at, fInt0_at, fAdd_int, fCmp_at, fNeg_at, fLen_tup, fLen_lst, fIx_t0, fIx_l0, fIx_t1, fIx_l1, fIntC_at, fAbs_at, fGcd_at, fRepr_at, fBits_at, fIs_at, range_at, List.map_cons, List.map_nil, List.length_cons, List.length_nil, List.cons_append, List.nil_append, List.set_cons_zero, List.set_cons_succ, List.replicate, Nat.reduceAdd, Nat.reduceSub, List.append_nil, dName, true_and, and_true, Nat.zero_add, Nat.sub_self]
  refine ⟨fits_small (by simp), fits_small (by simp), ⟨by decide, by decide⟩, ?_⟩
  have W : ∀ h : Nat, 1 ≤ 2 ^ (h + 1) - 1 := fun h => by have := Nat.pow_le_pow_right (n := 2) (by decide) (show 1 ≤ h + 1 by omega); omega
  refine forD_inv (fun k ρ n' => n' = n ∧ k ≤ 41 ∧ ∃ (ws : List (Nat × D)) (z3 z4 z5 : Option SV), ρ = [some (.d (.int l)), some (.d d), some (.d (.lst (ws.map fun p => D.tup [.int p.1, p.2]))), z3, z4, z5] ∧ (∀ p ∈ ws, p.1 ≤ 2 ∧ okDp 6 p.2 = true ∧ okV p.2) ∧ isPl l d = ws.all (fun p => isPl p.1 p.2) ∧ (ws.map fun p => 2 ^ (p.1 + 1) - 1).sum < k) _ _ _ ?_ ?_ ?_
  · refine ⟨rfl, by simp [rangeD], [(l, d)], _, _, _, rfl, by intro p hp; rw [List.mem_singleton.mp hp]; exact ⟨hl2, hd, hv⟩, by simp, ?_⟩
    have : 2 ^ (l + 1) ≤ 2 ^ 3 := Nat.pow_le_pow_right (by decide) (by omega)
    simp [rangeD]
    omega
  · intro ρ n' hi
    obtain ⟨_, _, ws, _, _, _, _, _, _, hw⟩ := hi
    omega
  · intro k e ρ n' E' he hi hnx hbk hrt hex
    obtain ⟨rfl, hkk, ws, z3, z4, z5, rfl, hok, hall, hw⟩ := hi
    simp only [g_tup2, g_tup3, fNotN_at, fIsN_at, List.getElem?_cons_succ, List.getElem?_cons_zero, s_par3, s_lc, fCut_at, fAdd_lst, fAdd_tup, fList_lst, fList_tup, fTuple_lst, fMul_lst, items_lst, items_tup, range2_at, zip_at, s_body, s_seq, s_next, s_onE, s_onT, s_asg, s_par, s_for, s_raise, s_try, s_asgG, w_bind, w_pure, w_need, w_fail, w_calm, g_0, g_s, fEq_int, fNe_int, fEq_str, fNe_str, fInt_at, fInt0_at, fAdd_int, fCmp_at, fNeg_at, fLen_tup, fLen_lst, fIx_t0, fIx_l0, fIx_t1, fIx_l1, fIntC_at, fAbs_at, fGcd_at, fRepr_at, fBits_at, fIs_at, range_at, List.map_cons, List.map_nil, List.length_cons, List.length_nil, List.cons_append, List.nil_append, List.set_cons_zero, List.set_cons_succ, List.replicate, Nat.reduceAdd, Nat.reduceSub, List.append_nil, dName, true_and, and_true, Nat.zero_add, Nat.sub_self]
    refine fEq_data (okV_waiting fun p hp => (hok p hp).2.2) ⟨rfl, by unfold SeqAt.shaped pyD; decide⟩ ?_
    cases ws with
    | nil =>
      have e0 : eqD (.lst (([] : List (Nat × D)).map fun p => D.tup [.int p.1, p.2])) (.lst []) = true := by unfold eqD pyD; simp [pyL, PyData.eqv, PyData.eqvAll]
      rw [e0]
      try simp only [g_tup2, g_tup3, fNotN_at, fIsN_at, List.getElem?_cons_succ, List.getElem?_cons_zero, s_par3, s_lc, fCut_at, fAdd_lst, fAdd_tup, fList_lst, fList_tup, fTuple_lst, fMul_lst, items_lst, items_tup, range2_at, zip_at, s_body, s_seq, s_next, s_onE, s_onT, s_asg, s_par, s_for, s_raise, s_try, s_asgG, w_bind, w_pure, w_need, w_fail, w_calm, g_0, g_s, fEq_int, fNe_int, fEq_str, fNe_str, fInt_at, fInt0_at, fAdd_int, fCmp_at, fNeg_at, fLen_tup, fLen_lst, fIx_t0, fIx_l0, fIx_t1, fIx_l1, fIntC_at, fAbs_at, fGcd_at, fRepr_at, fBits_at, fIs_at, range_at, List.map_cons, List.map_nil, List.length_cons, List.length_nil, List.cons_append, List.nil_append, List.set_cons_zero, List.set_cons_succ, List.replicate, Nat.reduceAdd, Nat.reduceSub, List.append_nil, dName, true_and, and_true, Nat.zero_add, Nat.sub_self]
      refine ifT trivial ?_
      rw [hrt]
      rw [hall] at hk
      exact hk
    | cons p ws =>
      have e0 : eqD (.lst ((p :: ws).map fun p => D.tup [.int p.1, p.2])) (.lst []) = false := by unfold eqD pyD; simp [pyL, PyData.eqv, PyData.eqvAll]
      rw [e0]
      try simp only [g_tup2, g_tup3, fNotN_at, fIsN_at, List.getElem?_cons_succ, List.getElem?_cons_zero, s_par3, s_lc, fCut_at, fAdd_lst, fAdd_tup, fList_lst, fList_tup, fTuple_lst, fMul_lst, items_lst, items_tup, range2_at, zip_at, s_body, s_seq, s_next, s_onE, s_onT, s_asg, s_par, s_for, s_raise, s_try, s_asgG, w_bind, w_pure, w_need, w_fail, w_calm, g_0, g_s, fEq_int, fNe_int, fEq_str, fNe_str, fInt_at, fInt0_at, fAdd_int, fCmp_at, fNeg_at, fLen_tup, fLen_lst, fIx_t0, fIx_l0, fIx_t1, fIx_l1, fIntC_at, fAbs_at, fGcd_at, fRepr_at, fBits_at, fIs_at, range_at, List.map_cons, List.map_nil, List.length_cons, List.length_nil, List.cons_append, List.nil_append, List.set_cons_zero, List.set_cons_succ, List.replicate, Nat.reduceAdd, Nat.reduceSub, List.append_nil, dName, true_and, and_true, Nat.zero_add, Nat.sub_self]
      refine ifF (by simp) ?_
      obtain ⟨h, here⟩ := p
      obtain ⟨h2, hh, hvv⟩ := hok (h, here) List.mem_cons_self
      have hok' : ∀ q ∈ ws, q.1 ≤ 2 ∧ okDp 6 q.2 = true ∧ okV q.2 := fun q hq => hok q (List.mem_cons_of_mem _ hq)
      have hw' : (ws.map fun p => 2 ^ (p.1 + 1) - 1).sum + (2 ^ (h + 1) - 1) < k + 1 := by
        have : (((h, here) :: ws).map fun p => 2 ^ (p.1 + 1) - 1).sum = (2 ^ (h + 1) - 1) + (ws.map fun p => 2 ^ (p.1 + 1) - 1).sum := by rw [List.map_cons, List.sum_cons]
        omega
      have hall' : isPl l d = (isPl h here && ws.all fun p => isPl p.1 p.2) := by rw [hall]; simp
      have W1 := W h
      try simp only [g_tup2, g_tup3, fNotN_at, fIsN_at, List.getElem?_cons_succ, List.getElem?_cons_zero, s_par3, s_lc, fCut_at, fAdd_lst, fAdd_tup, fList_lst, fList_tup, fTuple_lst, fMul_lst, items_lst, items_tup, range2_at, zip_at, s_body, s_seq, s_next, s_onE, s_onT, s_asg, s_par, s_for, s_raise, s_try, s_asgG, w_bind, w_pure, w_need, w_fail, w_calm, g_0, g_s, fEq_int, fNe_int, fEq_str, fNe_str, fInt_at, fInt0_at, fAdd_int, fCmp_at, fNeg_at, fLen_tup, fLen_lst, fIx_t0, fIx_l0, fIx_t1, fIx_l1, fIntC_at, fAbs_at, fGcd_at, fRepr_at, fBits_at, fIs_at, range_at, List.map_cons, List.map_nil, List.length_cons, List.length_nil, List.cons_append, List.nil_append, List.set_cons_zero, List.set_cons_succ, List.replicate, Nat.reduceAdd, Nat.reduceSub, List.append_nil, dName, true_and, and_true, Nat.zero_add, Nat.sub_self]
      rw [fCut_lst, cut_tail]
      refine ⟨fits_small (by simp), ?_⟩
      simp only [dgTup, dgCons, dgNil, dName, List.length_cons, List.length_nil, Nat.zero_add, Nat.reduceAdd, if_true, Option.bind_some, List.set_cons_zero, List.set_cons_succ]
      try simp only [g_tup2, g_tup3, fNotN_at, fIsN_at, List.getElem?_cons_succ, List.getElem?_cons_zero, s_par3, s_lc, fCut_at, fAdd_lst, fAdd_tup, fList_lst, fList_tup, fTuple_lst, fMul_lst, items_lst, items_tup, range2_at, zip_at, s_body, s_seq, s_next, s_onE, s_onT, s_asg, s_par, s_for, s_raise, s_try, s_asgG, w_bind, w_pure, w_need, w_fail, w_calm, g_0, g_s, fEq_int, fNe_int, fEq_str, fNe_str, fInt_at, fInt0_at, fAdd_int, fCmp_at, fNeg_at, fLen_tup, fLen_lst, fIx_t0, fIx_l0, fIx_t1, fIx_l1, fIntC_at, fAbs_at, fGcd_at, fRepr_at, fBits_at, fIs_at, range_at, List.map_cons, List.map_nil, List.length_cons, List.length_nil, List.cons_append, List.nil_append, List.set_cons_zero, List.set_cons_succ, List.replicate, Nat.reduceAdd, Nat.reduceSub, List.append_nil, dName, true_and, and_true, Nat.zero_add, Nat.sub_self]
      by_cases h0 : h = 0
      · subst h0
        refine ifT (by simp) ?_
        refine ⟨okDp_base hh, ?_⟩
        have e1 : isPl 0 here = wholeB here := by unfold isPl; rfl
        rw [e1] at hall'
        by_cases hwb : wholeB here = true
        · refine ifF (by simp [hwb]) ?_
          refine hnx _ _ ⟨rfl, by omega, ws, _, _, _, rfl, hok', by rw [hall', hwb, Bool.true_and], by omega⟩
        · have hwb : wholeB here = false := by simpa using hwb
          refine ifT (by simp [hwb]) ?_
          rw [hrt]
          rw [hall', hwb, Bool.false_and] at hk
          exact hk
      · refine ifF (by simpa using h0) ?_
        rw [isi_tuple (okDp_base hh)]
        obtain ⟨h', rfl⟩ : ∃ h', h = h' + 1 := ⟨h - 1, by omega⟩
        try simp only [g_tup2, g_tup3, fNotN_at, fIsN_at, List.getElem?_cons_succ, List.getElem?_cons_zero, s_par3, s_lc, fCut_at, fAdd_lst, fAdd_tup, fList_lst, fList_tup, fTuple_lst, fMul_lst, items_lst, items_tup, range2_at, zip_at, s_body, s_seq, s_next, s_onE, s_onT, s_asg, s_par, s_for, s_raise, s_try, s_asgG, w_bind, w_pure, w_need, w_fail, w_calm, g_0, g_s, fEq_int, fNe_int, fEq_str, fNe_str, fInt_at, fInt0_at, fAdd_int, fCmp_at, fNeg_at, fLen_tup, fLen_lst, fIx_t0, fIx_l0, fIx_t1, fIx_l1, fIntC_at, fAbs_at, fGcd_at, fRepr_at, fBits_at, fIs_at, range_at, List.map_cons, List.map_nil, List.length_cons, List.length_nil, List.cons_append, List.nil_append, List.set_cons_zero, List.set_cons_succ, List.replicate, Nat.reduceAdd, Nat.reduceSub, List.append_nil, dName, true_and, and_true, Nat.zero_add, Nat.sub_self]
        have bad : isPl (h' + 1) here = false → Kd (.bl false) n' := fun e => by
          rw [hall', e, Bool.false_and] at hk
          exact hk
        by_cases ht : tupB here = true
        · obtain ⟨es, rfl⟩ : ∃ es, here = .tup es := by
            cases here with
            | tup es => exact ⟨es, rfl⟩
            | _ => cases ht
          rw [ht]
          try rw [w_ite]
          try refine ifF (by simp) ?_
          try simp only [g_tup2, g_tup3, fNotN_at, fIsN_at, List.getElem?_cons_succ, List.getElem?_cons_zero, s_par3, s_lc, fCut_at, fAdd_lst, fAdd_tup, fList_lst, fList_tup, fTuple_lst, fMul_lst, items_lst, items_tup, range2_at, zip_at, s_body, s_seq, s_next, s_onE, s_onT, s_asg, s_par, s_for, s_raise, s_try, s_asgG, w_bind, w_pure, w_need, w_fail, w_calm, g_0, g_s, fEq_int, fNe_int, fEq_str, fNe_str, fInt_at, fInt0_at, fAdd_int, fCmp_at, fNeg_at, fLen_tup, fLen_lst, fIx_t0, fIx_l0, fIx_t1, fIx_l1, fIntC_at, fAbs_at, fGcd_at, fRepr_at, fBits_at, fIs_at, range_at, List.map_cons, List.map_nil, List.length_cons, List.length_nil, List.cons_append, List.nil_append, List.set_cons_zero, List.set_cons_succ, List.replicate, Nat.reduceAdd, Nat.reduceSub, List.append_nil, dName, true_and, and_true, Nat.zero_add, Nat.sub_self]
          by_cases h2l : es.length = 2
          · obtain ⟨x, y, rfl⟩ : ∃ x y, es = [x, y] := by
              match es, h2l with
              | [x, y], _ => exact ⟨x, y, rfl⟩
            refine ifF (by simp) ?_
            try simp only [g_tup2, g_tup3, fNotN_at, fIsN_at, List.getElem?_cons_succ, List.getElem?_cons_zero, s_par3, s_lc, fCut_at, fAdd_lst, fAdd_tup, fList_lst, fList_tup, fTuple_lst, fMul_lst, items_lst, items_tup, range2_at, zip_at, s_body, s_seq, s_next, s_onE, s_onT, s_asg, s_par, s_for, s_raise, s_try, s_asgG, w_bind, w_pure, w_need, w_fail, w_calm, g_0, g_s, fEq_int, fNe_int, fEq_str, fNe_str, fInt_at, fInt0_at, fAdd_int, fCmp_at, fNeg_at, fLen_tup, fLen_lst, fIx_t0, fIx_l0, fIx_t1, fIx_l1, fIntC_at, fAbs_at, fGcd_at, fRepr_at, fBits_at, fIs_at, range_at, List.map_cons, List.map_nil, List.length_cons, List.length_nil, List.cons_append, List.nil_append, List.set_cons_zero, List.set_cons_succ, List.replicate, Nat.reduceAdd, Nat.reduceSub, List.append_nil, dName, true_and, and_true, Nat.zero_add, Nat.sub_self]
            have e2 : 2 ^ (h' + 1 + 1) = 2 * 2 ^ (h' + 1) := by rw [Nat.pow_succ]; omega
            have W2 := W h'
            have hwl : ws.length ≤ 41 + k := by
              have := wsum_len ws
              omega
            have hk40 : k ≤ 40 := by omega
            refine ⟨fits_small (by simp), fits_small (by simp), fits_small (by simp), fits_small (by simp; omega), hnx _ _ ⟨rfl, by omega, ws ++ [(h', x), (h', y)], some (.d e), some (.d (.int ((h' + 1 : Nat) : Int))), some (.d (.tup [x, y])), ?_, ?_, ?_, ?_⟩⟩
            · have e3 : (((h' + 1 : Nat) : Int) - 1) = (h' : Int) := by omega
              rw [e3, List.map_append]
              rfl
            · intro q hq
              obtain ⟨v1, v2⟩ := okV_two hvv
              obtain ⟨o1, o2⟩ := okDp_two (okDp_succ hh)
              rcases List.mem_append.mp hq with hq | hq
              · exact hok' q hq
              · simp only [List.mem_cons, List.not_mem_nil, or_false] at hq
                rcases hq with rfl | rfl
                · exact ⟨by show h' ≤ 2; omega, o1, v1⟩
                · exact ⟨by show h' ≤ 2; omega, o2, v2⟩
            · rw [hall', isPl_two, List.all_append]
              simp only [List.all_cons, List.all_nil, Bool.and_true]
              exact Bool.and_comm _ _
            · rw [List.map_append, List.sum_append]
              simp only [List.map_cons, List.map_nil, List.sum_cons, List.sum_nil]
              rw [e2] at hw'
              generalize (ws.map fun p => 2 ^ (p.1 + 1) - 1).sum = A at hw' ⊢
              generalize 2 ^ (h' + 1) = B at hw' W2 ⊢
              omega
          · refine ifT (by simp; omega) ?_
            rw [hrt]
            refine bad ?_
            unfold isPl
            have : twoT (.tup es) = none := by
              match es, h2l with
              | [], _ => rfl
              | [_], _ => rfl
              | _ :: _ :: _ :: _, _ => rfl
            rw [this]
        · have ht : tupB here = false := by simpa using ht
          rw [ht]
          try rw [w_ite]
          try refine ifT (by simp) ?_
          try simp only [g_tup2, g_tup3, fNotN_at, fIsN_at, List.getElem?_cons_succ, List.getElem?_cons_zero, s_par3, s_lc, fCut_at, fAdd_lst, fAdd_tup, fList_lst, fList_tup, fTuple_lst, fMul_lst, items_lst, items_tup, range2_at, zip_at, s_body, s_seq, s_next, s_onE, s_onT, s_asg, s_par, s_for, s_raise, s_try, s_asgG, w_bind, w_pure, w_need, w_fail, w_calm, g_0, g_s, fEq_int, fNe_int, fEq_str, fNe_str, fInt_at, fInt0_at, fAdd_int, fCmp_at, fNeg_at, fLen_tup, fLen_lst, fIx_t0, fIx_l0, fIx_t1, fIx_l1, fIntC_at, fAbs_at, fGcd_at, fRepr_at, fBits_at, fIs_at, range_at, List.map_cons, List.map_nil, List.length_cons, List.length_nil, List.cons_append, List.nil_append, List.set_cons_zero, List.set_cons_succ, List.replicate, Nat.reduceAdd, Nat.reduceSub, List.append_nil, dName, true_and, and_true, Nat.zero_add, Nat.sub_self]
          try refine ifT (by simp) ?_
          rw [hrt]
          refine bad ?_
          unfold isPl
          cases here <;> first | rfl | cases ht


theorem ok__law_due  (F : DefF K mg "_law_due" s__law_due ["roots", "number", "value", "none"]) (h_grid_product : DefG P w K mg base "grid_product" ["roots", "one", "other"] (17) (w_grid_product C_BadRow)) (h__law_zero_of : DefG P w K mg base "_law_zero_of" ["level"] (5) (w__law_zero_of 4)) (h__law_is_number : DefG P w K mg base "_law_is_number" ["level", "value"] (2) w__law_is_number) (m_len : mg "len" = none) (m_tuple : mg "tuple" = none) (m_isinstance : mg "isinstance" = none) : DefG P w K mg base "_law_due" ["roots", "number", "value", "none"] (17 + 1) w__law_due := by
  obtain ⟨f_grid_product, d_grid_product, G_grid_product, n_grid_product, q_grid_product, b_grid_product⟩ := h_grid_product.ex
  obtain ⟨f__law_zero_of, d__law_zero_of, G__law_zero_of, n__law_zero_of, q__law_zero_of, b__law_zero_of⟩ := h__law_zero_of.ex
  obtain ⟨f__law_is_number, d__law_is_number, G__law_is_number, n__law_is_number, q__law_is_number, b__law_is_number⟩ := h__law_is_number.ex
  refine def_ok (k := 17) F sc__law_due (fun f cdv A outer s H E hg hr => (DSs.cons (DS.set (k := 4) (fun _ => sc__law_due.nd) (fun _ => rfl) (fun _ => (.inl rfl)) (DE.opL (fun _ _ ha => pe_callB call_lenA (by rfl) m_len (by decide +kernel) ha) sem_len (DA.cons (DE.var fun _ => pv 0) DA.nil)))
    (DSs.cons (DS.ifS (DT.cmp (fun _ => op_isN) sem_isN (DE.var fun _ => pv 2) DE.non) (DSs.one (DS.ret (DE.var fun _ => pv 3))) DSs.nil)
    (DSs.cons (DS.ifS (DW.pt (DW.or (DT.not (DT.val (DE.isi1 (fun _ => rfl) (fun _ => pe_bltn (v := .ty "tuple") (by rfl) m_tuple (by decide +kernel) rfl) (.ty "tuple") (fun _ => by rfl) (fun _ => m_isinstance) (DE.var fun _ => pv 2)))) (DW.or (DT.cmp (fun _ => op_neA hr.units) sem_neA (DE.opL (fun _ _ ha => pe_callB call_lenA (by rfl) m_len (by decide +kernel) ha) sem_len (DA.cons (DE.var fun _ => pv 2) DA.nil)) DE.int) (DW.or (DT.not (DT.val (DE.call (fun _ => G__law_is_number) (fun _ => hg) (fun _ => hr.mono (by omega)) (fun _ => takes_of rfl rfl rfl rfl) (fun _ => by rfl) (fun _ => n__law_is_number) (fun _ => q__law_is_number) (fun _ => b__law_is_number) (DA.cons (DE.var fun _ => pv 4) (DA.cons (DE.op2 (fun _ _ _ p q => pe_ix ix_seq p q (fun _ _ => rfl)) sem_ix (DE.var fun _ => pv 2) DE.int) DA.nil))))) (DW.or (DT.not (DT.val (DE.call (fun _ => G__law_is_number) (fun _ => hg) (fun _ => hr.mono (by omega)) (fun _ => takes_of rfl rfl rfl rfl) (fun _ => by rfl) (fun _ => n__law_is_number) (fun _ => q__law_is_number) (fun _ => b__law_is_number) (DA.cons (DE.var fun _ => pv 4) (DA.cons (DE.op2 (fun _ _ _ p q => pe_ix ix_seq p q (fun _ _ => rfl)) sem_ix (DE.var fun _ => pv 2) DE.int) DA.nil))))) (DW.or1 (DT.cmp (fun _ => op_eqA hr.units) sem_eqA (DE.op2 (fun _ _ _ p q => pe_ix ix_seq p q (fun _ _ => rfl)) sem_ix (DE.var fun _ => pv 2) DE.int) (DE.call (fun _ => G__law_zero_of) (fun _ => hg) (fun _ => hr.mono (by omega)) (fun _ => takes_of rfl rfl rfl rfl) (fun _ => by rfl) (fun _ => n__law_zero_of) (fun _ => q__law_zero_of) (fun _ => b__law_zero_of) (DA.cons (DE.var fun _ => pv 4) DA.nil))))))))) (DSs.one (DS.ret DE.bl)) DSs.nil)
    (DSs.one (DS.ret (DE.cmp (fun _ => op_eqA hr.units) sem_eqA (DE.call (fun _ => G_grid_product) (fun _ => hg) (fun _ => hr.mono (by omega)) (fun _ => takes_of rfl rfl rfl rfl) (fun _ => by rfl) (fun _ => n_grid_product) (fun _ => q_grid_product) (fun _ => b_grid_product) (DA.cons (DE.var fun _ => pv 0) (DA.cons (DE.op2 (fun _ _ _ p q => pe_ix ix_seq p q (fun _ _ => rfl)) sem_ix (DE.var fun _ => pv 2) DE.int) (DA.cons (DE.op2 (fun _ _ _ p q => pe_ix ix_seq p q (fun _ _ => rfl)) sem_ix (DE.var fun _ => pv 2) DE.int) DA.nil)))) (DE.call (fun _ => G_grid_product) (fun _ => hg) (fun _ => hr.mono (by omega)) (fun _ => takes_of rfl rfl rfl rfl) (fun _ => by rfl) (fun _ => n_grid_product) (fun _ => q_grid_product) (fun _ => b_grid_product) (DA.cons (DE.var fun _ => pv 0) (DA.cons (DE.var fun _ => pv 1) (DA.cons (DE.call (fun _ => G_grid_product) (fun _ => hg) (fun _ => hr.mono (by omega)) (fun _ => takes_of rfl rfl rfl rfl) (fun _ => by rfl) (fun _ => n_grid_product) (fun _ => q_grid_product) (fun _ => b_grid_product) (DA.cons (DE.var fun _ => pv 0) (DA.cons (DE.op2 (fun _ _ _ p q => pe_ix ix_seq p q (fun _ _ => rfl)) sem_ix (DE.var fun _ => pv 2) DE.int) (DA.cons (DE.op2 (fun _ _ _ p q => pe_ix ix_seq p q (fun _ _ => rfl)) sem_ix (DE.var fun _ => pv 2) DE.int) DA.nil)))) DA.nil))))))))))) fun ds Kd Kx n hl h => ?_
  obtain ⟨l, r, y, v, nn, rfl, ⟨l2, hr, hg, hy, hv, ho⟩, h⟩ := h
  simp only [cut_last, fIx_last, dT_succ, lsub, rL_succ, rL_len, List.length_append, rD, g_tup2, g_tup3, fNotN_at, fIsN_at, List.getElem?_cons_succ, List.getElem?_cons_zero, s_par3, s_lc, fCut_at, fAdd_lst, fAdd_tup, fList_lst, fList_tup, fTuple_lst, fMul_lst, items_lst, items_tup, range2_at, zip_at, s_body, s_seq, s_next, s_onE, s_onT, s_asg, s_par, s_for, s_raise, s_try, s_asgG, w_bind, w_pure, w_need, w_fail, w_calm, g_0, g_s, fEq_int, fNe_int, fEq_str, fNe_str, fInt_at, fInt0_at, fAdd_int, fCmp_at, fNeg_at, fLen_tup, fLen_lst, fIx_t0, fIx_l0, fIx_t1, fIx_l1, fIntC_at, fAbs_at, fGcd_at, fRepr_at, fBits_at, fIs_at, range_at, List.map_cons, List.map_nil, List.length_cons, List.length_nil, List.cons_append, List.nil_append, List.set_cons_zero, List.set_cons_succ, List.replicate, Nat.reduceAdd, Nat.reduceSub, List.append_nil, dName, true_and, and_true, Nat.zero_add, Nat.sub_self]
  rcases h with ⟨rfl, hk⟩ | ⟨⟨nv, hbad⟩, hk⟩ | ⟨p, q, rfl, bp, bq, hk⟩
  · exact ifT rfl hk
  · have hn : nonB v = false := by cases v <;> first | rfl | exact absurd rfl nv
    refine ifF (by rw [hn]; decide) ?_
    try simp only [cut_last, fIx_last, dT_succ, lsub, rL_succ, rL_len, List.length_append, rD, g_tup2, g_tup3, fNotN_at, fIsN_at, List.getElem?_cons_succ, List.getElem?_cons_zero, s_par3, s_lc, fCut_at, fAdd_lst, fAdd_tup, fList_lst, fList_tup, fTuple_lst, fMul_lst, items_lst, items_tup, range2_at, zip_at, s_body, s_seq, s_next, s_onE, s_onT, s_asg, s_par, s_for, s_raise, s_try, s_asgG, w_bind, w_pure, w_need, w_fail, w_calm, g_0, g_s, fEq_int, fNe_int, fEq_str, fNe_str, fInt_at, fInt0_at, fAdd_int, fCmp_at, fNeg_at, fLen_tup, fLen_lst, fIx_t0, fIx_l0, fIx_t1, fIx_l1, fIntC_at, fAbs_at, fGcd_at, fRepr_at, fBits_at, fIs_at, range_at, List.map_cons, List.map_nil, List.length_cons, List.length_nil, List.cons_append, List.nil_append, List.set_cons_zero, List.set_cons_succ, List.replicate, Nat.reduceAdd, Nat.reduceSub, List.append_nil, dName, true_and, and_true, Nat.zero_add, Nat.sub_self]
    rw [isi_tuple (okDp_base hv)]
    try simp only [cut_last, fIx_last, dT_succ, lsub, rL_succ, rL_len, List.length_append, rD, g_tup2, g_tup3, fNotN_at, fIsN_at, List.getElem?_cons_succ, List.getElem?_cons_zero, s_par3, s_lc, fCut_at, fAdd_lst, fAdd_tup, fList_lst, fList_tup, fTuple_lst, fMul_lst, items_lst, items_tup, range2_at, zip_at, s_body, s_seq, s_next, s_onE, s_onT, s_asg, s_par, s_for, s_raise, s_try, s_asgG, w_bind, w_pure, w_need, w_fail, w_calm, g_0, g_s, fEq_int, fNe_int, fEq_str, fNe_str, fInt_at, fInt0_at, fAdd_int, fCmp_at, fNeg_at, fLen_tup, fLen_lst, fIx_t0, fIx_l0, fIx_t1, fIx_l1, fIntC_at, fAbs_at, fGcd_at, fRepr_at, fBits_at, fIs_at, range_at, List.map_cons, List.map_nil, List.length_cons, List.length_nil, List.cons_append, List.nil_append, List.set_cons_zero, List.set_cons_succ, List.replicate, Nat.reduceAdd, Nat.reduceSub, List.append_nil, dName, true_and, and_true, Nat.zero_add, Nat.sub_self]
    by_cases ht : tupB v = true
    · obtain ⟨es, rfl⟩ : ∃ es, v = .tup es := by
        cases v with
        | tup es => exact ⟨es, rfl⟩
        | _ => cases ht
      rw [ht]
      try rw [w_ite]
      try refine ifF (by simp) ?_
      try simp only [cut_last, fIx_last, dT_succ, lsub, rL_succ, rL_len, List.length_append, rD, g_tup2, g_tup3, fNotN_at, fIsN_at, List.getElem?_cons_succ, List.getElem?_cons_zero, s_par3, s_lc, fCut_at, fAdd_lst, fAdd_tup, fList_lst, fList_tup, fTuple_lst, fMul_lst, items_lst, items_tup, range2_at, zip_at, s_body, s_seq, s_next, s_onE, s_onT, s_asg, s_par, s_for, s_raise, s_try, s_asgG, w_bind, w_pure, w_need, w_fail, w_calm, g_0, g_s, fEq_int, fNe_int, fEq_str, fNe_str, fInt_at, fInt0_at, fAdd_int, fCmp_at, fNeg_at, fLen_tup, fLen_lst, fIx_t0, fIx_l0, fIx_t1, fIx_l1, fIntC_at, fAbs_at, fGcd_at, fRepr_at, fBits_at, fIs_at, range_at, List.map_cons, List.map_nil, List.length_cons, List.length_nil, List.cons_append, List.nil_append, List.set_cons_zero, List.set_cons_succ, List.replicate, Nat.reduceAdd, Nat.reduceSub, List.append_nil, dName, true_and, and_true, Nat.zero_add, Nat.sub_self]
      by_cases h2l : es.length = 2
      · obtain ⟨x1, x2, rfl⟩ : ∃ x y, es = [x, y] := by
          match es, h2l with
          | [x, y], _ => exact ⟨x, y, rfl⟩
        rcases hbad with hbad | ⟨a, b, e, hbad⟩
        · cases hbad
        · cases e
          obtain ⟨o1, o2⟩ := okDp_two (okDp_succ hv)
          obtain ⟨v1, v2⟩ := okV_two ho
          try simp only [cut_last, fIx_last, dT_succ, lsub, rL_succ, rL_len, List.length_append, rD, g_tup2, g_tup3, fNotN_at, fIsN_at, List.getElem?_cons_succ, List.getElem?_cons_zero, s_par3, s_lc, fCut_at, fAdd_lst, fAdd_tup, fList_lst, fList_tup, fTuple_lst, fMul_lst, items_lst, items_tup, range2_at, zip_at, s_body, s_seq, s_next, s_onE, s_onT, s_asg, s_par, s_for, s_raise, s_try, s_asgG, w_bind, w_pure, w_need, w_fail, w_calm, g_0, g_s, fEq_int, fNe_int, fEq_str, fNe_str, fInt_at, fInt0_at, fAdd_int, fCmp_at, fNeg_at, fLen_tup, fLen_lst, fIx_t0, fIx_l0, fIx_t1, fIx_l1, fIntC_at, fAbs_at, fGcd_at, fRepr_at, fBits_at, fIs_at, range_at, List.map_cons, List.map_nil, List.length_cons, List.length_nil, List.cons_append, List.nil_append, List.set_cons_zero, List.set_cons_succ, List.replicate, Nat.reduceAdd, Nat.reduceSub, List.append_nil, dName, true_and, and_true, Nat.zero_add, Nat.sub_self]
          try rw [w_ite]
          try refine ifF (by simp) ?_
          try simp only [cut_last, fIx_last, dT_succ, lsub, rL_succ, rL_len, List.length_append, rD, g_tup2, g_tup3, fNotN_at, fIsN_at, List.getElem?_cons_succ, List.getElem?_cons_zero, s_par3, s_lc, fCut_at, fAdd_lst, fAdd_tup, fList_lst, fList_tup, fTuple_lst, fMul_lst, items_lst, items_tup, range2_at, zip_at, s_body, s_seq, s_next, s_onE, s_onT, s_asg, s_par, s_for, s_raise, s_try, s_asgG, w_bind, w_pure, w_need, w_fail, w_calm, g_0, g_s, fEq_int, fNe_int, fEq_str, fNe_str, fInt_at, fInt0_at, fAdd_int, fCmp_at, fNeg_at, fLen_tup, fLen_lst, fIx_t0, fIx_l0, fIx_t1, fIx_l1, fIntC_at, fAbs_at, fGcd_at, fRepr_at, fBits_at, fIs_at, range_at, List.map_cons, List.map_nil, List.length_cons, List.length_nil, List.cons_append, List.nil_append, List.set_cons_zero, List.set_cons_succ, List.replicate, Nat.reduceAdd, Nat.reduceSub, List.append_nil, dName, true_and, and_true, Nat.zero_add, Nat.sub_self]
          refine ⟨l, x1, rfl, ⟨l2, o1, v1⟩, ?_⟩
          try simp only [cut_last, fIx_last, dT_succ, lsub, rL_succ, rL_len, List.length_append, rD, g_tup2, g_tup3, fNotN_at, fIsN_at, List.getElem?_cons_succ, List.getElem?_cons_zero, s_par3, s_lc, fCut_at, fAdd_lst, fAdd_tup, fList_lst, fList_tup, fTuple_lst, fMul_lst, items_lst, items_tup, range2_at, zip_at, s_body, s_seq, s_next, s_onE, s_onT, s_asg, s_par, s_for, s_raise, s_try, s_asgG, w_bind, w_pure, w_need, w_fail, w_calm, g_0, g_s, fEq_int, fNe_int, fEq_str, fNe_str, fInt_at, fInt0_at, fAdd_int, fCmp_at, fNeg_at, fLen_tup, fLen_lst, fIx_t0, fIx_l0, fIx_t1, fIx_l1, fIntC_at, fAbs_at, fGcd_at, fRepr_at, fBits_at, fIs_at, range_at, List.map_cons, List.map_nil, List.length_cons, List.length_nil, List.cons_append, List.nil_append, List.set_cons_zero, List.set_cons_succ, List.replicate, Nat.reduceAdd, Nat.reduceSub, List.append_nil, dName, true_and, and_true, Nat.zero_add, Nat.sub_self]
          try rw [w_ite]
          by_cases i1 : isPl l x1 = true
          · refine ifF (by simp [i1]) ?_
            try simp only [cut_last, fIx_last, dT_succ, lsub, rL_succ, rL_len, List.length_append, rD, g_tup2, g_tup3, fNotN_at, fIsN_at, List.getElem?_cons_succ, List.getElem?_cons_zero, s_par3, s_lc, fCut_at, fAdd_lst, fAdd_tup, fList_lst, fList_tup, fTuple_lst, fMul_lst, items_lst, items_tup, range2_at, zip_at, s_body, s_seq, s_next, s_onE, s_onT, s_asg, s_par, s_for, s_raise, s_try, s_asgG, w_bind, w_pure, w_need, w_fail, w_calm, g_0, g_s, fEq_int, fNe_int, fEq_str, fNe_str, fInt_at, fInt0_at, fAdd_int, fCmp_at, fNeg_at, fLen_tup, fLen_lst, fIx_t0, fIx_l0, fIx_t1, fIx_l1, fIntC_at, fAbs_at, fGcd_at, fRepr_at, fBits_at, fIs_at, range_at, List.map_cons, List.map_nil, List.length_cons, List.length_nil, List.cons_append, List.nil_append, List.set_cons_zero, List.set_cons_succ, List.replicate, Nat.reduceAdd, Nat.reduceSub, List.append_nil, dName, true_and, and_true, Nat.zero_add, Nat.sub_self]
            refine ⟨l, x2, rfl, ⟨l2, o2, v2⟩, ?_⟩
            rw [i1, Bool.true_and] at hbad
            rw [hbad]
            try simp only [cut_last, fIx_last, dT_succ, lsub, rL_succ, rL_len, List.length_append, rD, g_tup2, g_tup3, fNotN_at, fIsN_at, List.getElem?_cons_succ, List.getElem?_cons_zero, s_par3, s_lc, fCut_at, fAdd_lst, fAdd_tup, fList_lst, fList_tup, fTuple_lst, fMul_lst, items_lst, items_tup, range2_at, zip_at, s_body, s_seq, s_next, s_onE, s_onT, s_asg, s_par, s_for, s_raise, s_try, s_asgG, w_bind, w_pure, w_need, w_fail, w_calm, g_0, g_s, fEq_int, fNe_int, fEq_str, fNe_str, fInt_at, fInt0_at, fAdd_int, fCmp_at, fNeg_at, fLen_tup, fLen_lst, fIx_t0, fIx_l0, fIx_t1, fIx_l1, fIntC_at, fAbs_at, fGcd_at, fRepr_at, fBits_at, fIs_at, range_at, List.map_cons, List.map_nil, List.length_cons, List.length_nil, List.cons_append, List.nil_append, List.set_cons_zero, List.set_cons_succ, List.replicate, Nat.reduceAdd, Nat.reduceSub, List.append_nil, dName, true_and, and_true, Nat.zero_add, Nat.sub_self]
            try rw [w_ite]
            refine ifT (by simp) ?_
            try simp only [cut_last, fIx_last, dT_succ, lsub, rL_succ, rL_len, List.length_append, rD, g_tup2, g_tup3, fNotN_at, fIsN_at, List.getElem?_cons_succ, List.getElem?_cons_zero, s_par3, s_lc, fCut_at, fAdd_lst, fAdd_tup, fList_lst, fList_tup, fTuple_lst, fMul_lst, items_lst, items_tup, range2_at, zip_at, s_body, s_seq, s_next, s_onE, s_onT, s_asg, s_par, s_for, s_raise, s_try, s_asgG, w_bind, w_pure, w_need, w_fail, w_calm, g_0, g_s, fEq_int, fNe_int, fEq_str, fNe_str, fInt_at, fInt0_at, fAdd_int, fCmp_at, fNeg_at, fLen_tup, fLen_lst, fIx_t0, fIx_l0, fIx_t1, fIx_l1, fIntC_at, fAbs_at, fGcd_at, fRepr_at, fBits_at, fIs_at, range_at, List.map_cons, List.map_nil, List.length_cons, List.length_nil, List.cons_append, List.nil_append, List.set_cons_zero, List.set_cons_succ, List.replicate, Nat.reduceAdd, Nat.reduceSub, List.append_nil, dName, true_and, and_true, Nat.zero_add, Nat.sub_self]
            try refine ifT (by simp) ?_
            exact hk
          · refine ifT (by simpa using i1) ?_
            try simp only [cut_last, fIx_last, dT_succ, lsub, rL_succ, rL_len, List.length_append, rD, g_tup2, g_tup3, fNotN_at, fIsN_at, List.getElem?_cons_succ, List.getElem?_cons_zero, s_par3, s_lc, fCut_at, fAdd_lst, fAdd_tup, fList_lst, fList_tup, fTuple_lst, fMul_lst, items_lst, items_tup, range2_at, zip_at, s_body, s_seq, s_next, s_onE, s_onT, s_asg, s_par, s_for, s_raise, s_try, s_asgG, w_bind, w_pure, w_need, w_fail, w_calm, g_0, g_s, fEq_int, fNe_int, fEq_str, fNe_str, fInt_at, fInt0_at, fAdd_int, fCmp_at, fNeg_at, fLen_tup, fLen_lst, fIx_t0, fIx_l0, fIx_t1, fIx_l1, fIntC_at, fAbs_at, fGcd_at, fRepr_at, fBits_at, fIs_at, range_at, List.map_cons, List.map_nil, List.length_cons, List.length_nil, List.cons_append, List.nil_append, List.set_cons_zero, List.set_cons_succ, List.replicate, Nat.reduceAdd, Nat.reduceSub, List.append_nil, dName, true_and, and_true, Nat.zero_add, Nat.sub_self]
            try refine ifT (by simp) ?_
            exact hk
      · try rw [w_ite]
        refine ifT (by simp; omega) ?_
        try simp only [cut_last, fIx_last, dT_succ, lsub, rL_succ, rL_len, List.length_append, rD, g_tup2, g_tup3, fNotN_at, fIsN_at, List.getElem?_cons_succ, List.getElem?_cons_zero, s_par3, s_lc, fCut_at, fAdd_lst, fAdd_tup, fList_lst, fList_tup, fTuple_lst, fMul_lst, items_lst, items_tup, range2_at, zip_at, s_body, s_seq, s_next, s_onE, s_onT, s_asg, s_par, s_for, s_raise, s_try, s_asgG, w_bind, w_pure, w_need, w_fail, w_calm, g_0, g_s, fEq_int, fNe_int, fEq_str, fNe_str, fInt_at, fInt0_at, fAdd_int, fCmp_at, fNeg_at, fLen_tup, fLen_lst, fIx_t0, fIx_l0, fIx_t1, fIx_l1, fIntC_at, fAbs_at, fGcd_at, fRepr_at, fBits_at, fIs_at, range_at, List.map_cons, List.map_nil, List.length_cons, List.length_nil, List.cons_append, List.nil_append, List.set_cons_zero, List.set_cons_succ, List.replicate, Nat.reduceAdd, Nat.reduceSub, List.append_nil, dName, true_and, and_true, Nat.zero_add, Nat.sub_self]
        try refine ifT (by simp) ?_
        exact hk
    · have ht : tupB v = false := by simpa using ht
      rw [ht]
      try rw [w_ite]
      try refine ifT (by simp) ?_
      try simp only [cut_last, fIx_last, dT_succ, lsub, rL_succ, rL_len, List.length_append, rD, g_tup2, g_tup3, fNotN_at, fIsN_at, List.getElem?_cons_succ, List.getElem?_cons_zero, s_par3, s_lc, fCut_at, fAdd_lst, fAdd_tup, fList_lst, fList_tup, fTuple_lst, fMul_lst, items_lst, items_tup, range2_at, zip_at, s_body, s_seq, s_next, s_onE, s_onT, s_asg, s_par, s_for, s_raise, s_try, s_asgG, w_bind, w_pure, w_need, w_fail, w_calm, g_0, g_s, fEq_int, fNe_int, fEq_str, fNe_str, fInt_at, fInt0_at, fAdd_int, fCmp_at, fNeg_at, fLen_tup, fLen_lst, fIx_t0, fIx_l0, fIx_t1, fIx_l1, fIntC_at, fAbs_at, fGcd_at, fRepr_at, fBits_at, fIs_at, range_at, List.map_cons, List.map_nil, List.length_cons, List.length_nil, List.cons_append, List.nil_append, List.set_cons_zero, List.set_cons_succ, List.replicate, Nat.reduceAdd, Nat.reduceSub, List.append_nil, dName, true_and, and_true, Nat.zero_add, Nat.sub_self]
      try refine ifT (by simp) ?_
      exact hk
  · refine ifF (by simp [nonB]) ?_
    try simp only [cut_last, fIx_last, dT_succ, lsub, rL_succ, rL_len, List.length_append, rD, g_tup2, g_tup3, fNotN_at, fIsN_at, List.getElem?_cons_succ, List.getElem?_cons_zero, s_par3, s_lc, fCut_at, fAdd_lst, fAdd_tup, fList_lst, fList_tup, fTuple_lst, fMul_lst, items_lst, items_tup, range2_at, zip_at, s_body, s_seq, s_next, s_onE, s_onT, s_asg, s_par, s_for, s_raise, s_try, s_asgG, w_bind, w_pure, w_need, w_fail, w_calm, g_0, g_s, fEq_int, fNe_int, fEq_str, fNe_str, fInt_at, fInt0_at, fAdd_int, fCmp_at, fNeg_at, fLen_tup, fLen_lst, fIx_t0, fIx_l0, fIx_t1, fIx_l1, fIntC_at, fAbs_at, fGcd_at, fRepr_at, fBits_at, fIs_at, range_at, List.map_cons, List.map_nil, List.length_cons, List.length_nil, List.cons_append, List.nil_append, List.set_cons_zero, List.set_cons_succ, List.replicate, Nat.reduceAdd, Nat.reduceSub, List.append_nil, dName, true_and, and_true, Nat.zero_add, Nat.sub_self]
    rw [isi_tuple (okDp_base hv)]
    try simp only [cut_last, fIx_last, dT_succ, lsub, rL_succ, rL_len, List.length_append, rD, g_tup2, g_tup3, fNotN_at, fIsN_at, List.getElem?_cons_succ, List.getElem?_cons_zero, s_par3, s_lc, fCut_at, fAdd_lst, fAdd_tup, fList_lst, fList_tup, fTuple_lst, fMul_lst, items_lst, items_tup, range2_at, zip_at, s_body, s_seq, s_next, s_onE, s_onT, s_asg, s_par, s_for, s_raise, s_try, s_asgG, w_bind, w_pure, w_need, w_fail, w_calm, g_0, g_s, fEq_int, fNe_int, fEq_str, fNe_str, fInt_at, fInt0_at, fAdd_int, fCmp_at, fNeg_at, fLen_tup, fLen_lst, fIx_t0, fIx_l0, fIx_t1, fIx_l1, fIntC_at, fAbs_at, fGcd_at, fRepr_at, fBits_at, fIs_at, range_at, List.map_cons, List.map_nil, List.length_cons, List.length_nil, List.cons_append, List.nil_append, List.set_cons_zero, List.set_cons_succ, List.replicate, Nat.reduceAdd, Nat.reduceSub, List.append_nil, dName, true_and, and_true, Nat.zero_add, Nat.sub_self]
    obtain ⟨o1, o2⟩ := okDp_two (okDp_succ hv)
    obtain ⟨v1, v2⟩ := okV_two ho
    try rw [w_ite]
    try refine ifF (by simp [tupB]) ?_
    try simp only [cut_last, fIx_last, dT_succ, lsub, rL_succ, rL_len, List.length_append, rD, g_tup2, g_tup3, fNotN_at, fIsN_at, List.getElem?_cons_succ, List.getElem?_cons_zero, s_par3, s_lc, fCut_at, fAdd_lst, fAdd_tup, fList_lst, fList_tup, fTuple_lst, fMul_lst, items_lst, items_tup, range2_at, zip_at, s_body, s_seq, s_next, s_onE, s_onT, s_asg, s_par, s_for, s_raise, s_try, s_asgG, w_bind, w_pure, w_need, w_fail, w_calm, g_0, g_s, fEq_int, fNe_int, fEq_str, fNe_str, fInt_at, fInt0_at, fAdd_int, fCmp_at, fNeg_at, fLen_tup, fLen_lst, fIx_t0, fIx_l0, fIx_t1, fIx_l1, fIntC_at, fAbs_at, fGcd_at, fRepr_at, fBits_at, fIs_at, range_at, List.map_cons, List.map_nil, List.length_cons, List.length_nil, List.cons_append, List.nil_append, List.set_cons_zero, List.set_cons_succ, List.replicate, Nat.reduceAdd, Nat.reduceSub, List.append_nil, dName, true_and, and_true, Nat.zero_add, Nat.sub_self]
    try rw [w_ite]
    try refine ifF (by simp) ?_
    try simp only [cut_last, fIx_last, dT_succ, lsub, rL_succ, rL_len, List.length_append, rD, g_tup2, g_tup3, fNotN_at, fIsN_at, List.getElem?_cons_succ, List.getElem?_cons_zero, s_par3, s_lc, fCut_at, fAdd_lst, fAdd_tup, fList_lst, fList_tup, fTuple_lst, fMul_lst, items_lst, items_tup, range2_at, zip_at, s_body, s_seq, s_next, s_onE, s_onT, s_asg, s_par, s_for, s_raise, s_try, s_asgG, w_bind, w_pure, w_need, w_fail, w_calm, g_0, g_s, fEq_int, fNe_int, fEq_str, fNe_str, fInt_at, fInt0_at, fAdd_int, fCmp_at, fNeg_at, fLen_tup, fLen_lst, fIx_t0, fIx_l0, fIx_t1, fIx_l1, fIntC_at, fAbs_at, fGcd_at, fRepr_at, fBits_at, fIs_at, range_at, List.map_cons, List.map_nil, List.length_cons, List.length_nil, List.cons_append, List.nil_append, List.set_cons_zero, List.set_cons_succ, List.replicate, Nat.reduceAdd, Nat.reduceSub, List.append_nil, dName, true_and, and_true, Nat.zero_add, Nat.sub_self]
    refine ⟨l, _, rfl, ⟨l2, o1, v1⟩, ?_⟩
    rw [isPl_T]
    try simp only [cut_last, fIx_last, dT_succ, lsub, rL_succ, rL_len, List.length_append, rD, g_tup2, g_tup3, fNotN_at, fIsN_at, List.getElem?_cons_succ, List.getElem?_cons_zero, s_par3, s_lc, fCut_at, fAdd_lst, fAdd_tup, fList_lst, fList_tup, fTuple_lst, fMul_lst, items_lst, items_tup, range2_at, zip_at, s_body, s_seq, s_next, s_onE, s_onT, s_asg, s_par, s_for, s_raise, s_try, s_asgG, w_bind, w_pure, w_need, w_fail, w_calm, g_0, g_s, fEq_int, fNe_int, fEq_str, fNe_str, fInt_at, fInt0_at, fAdd_int, fCmp_at, fNeg_at, fLen_tup, fLen_lst, fIx_t0, fIx_l0, fIx_t1, fIx_l1, fIntC_at, fAbs_at, fGcd_at, fRepr_at, fBits_at, fIs_at, range_at, List.map_cons, List.map_nil, List.length_cons, List.length_nil, List.cons_append, List.nil_append, List.set_cons_zero, List.set_cons_succ, List.replicate, Nat.reduceAdd, Nat.reduceSub, List.append_nil, dName, true_and, and_true, Nat.zero_add, Nat.sub_self]
    try rw [w_ite]
    refine ifF (by simp) ?_
    try simp only [cut_last, fIx_last, dT_succ, lsub, rL_succ, rL_len, List.length_append, rD, g_tup2, g_tup3, fNotN_at, fIsN_at, List.getElem?_cons_succ, List.getElem?_cons_zero, s_par3, s_lc, fCut_at, fAdd_lst, fAdd_tup, fList_lst, fList_tup, fTuple_lst, fMul_lst, items_lst, items_tup, range2_at, zip_at, s_body, s_seq, s_next, s_onE, s_onT, s_asg, s_par, s_for, s_raise, s_try, s_asgG, w_bind, w_pure, w_need, w_fail, w_calm, g_0, g_s, fEq_int, fNe_int, fEq_str, fNe_str, fInt_at, fInt0_at, fAdd_int, fCmp_at, fNeg_at, fLen_tup, fLen_lst, fIx_t0, fIx_l0, fIx_t1, fIx_l1, fIntC_at, fAbs_at, fGcd_at, fRepr_at, fBits_at, fIs_at, range_at, List.map_cons, List.map_nil, List.length_cons, List.length_nil, List.cons_append, List.nil_append, List.set_cons_zero, List.set_cons_succ, List.replicate, Nat.reduceAdd, Nat.reduceSub, List.append_nil, dName, true_and, and_true, Nat.zero_add, Nat.sub_self]
    refine ⟨l, _, rfl, ⟨l2, o2, v2⟩, ?_⟩
    rw [isPl_T]
    try simp only [cut_last, fIx_last, dT_succ, lsub, rL_succ, rL_len, List.length_append, rD, g_tup2, g_tup3, fNotN_at, fIsN_at, List.getElem?_cons_succ, List.getElem?_cons_zero, s_par3, s_lc, fCut_at, fAdd_lst, fAdd_tup, fList_lst, fList_tup, fTuple_lst, fMul_lst, items_lst, items_tup, range2_at, zip_at, s_body, s_seq, s_next, s_onE, s_onT, s_asg, s_par, s_for, s_raise, s_try, s_asgG, w_bind, w_pure, w_need, w_fail, w_calm, g_0, g_s, fEq_int, fNe_int, fEq_str, fNe_str, fInt_at, fInt0_at, fAdd_int, fCmp_at, fNeg_at, fLen_tup, fLen_lst, fIx_t0, fIx_l0, fIx_t1, fIx_l1, fIntC_at, fAbs_at, fGcd_at, fRepr_at, fBits_at, fIs_at, range_at, List.map_cons, List.map_nil, List.length_cons, List.length_nil, List.cons_append, List.nil_append, List.set_cons_zero, List.set_cons_succ, List.replicate, Nat.reduceAdd, Nat.reduceSub, List.append_nil, dName, true_and, and_true, Nat.zero_add, Nat.sub_self]
    try rw [w_ite]
    refine ifF (by simp) ?_
    try simp only [cut_last, fIx_last, dT_succ, lsub, rL_succ, rL_len, List.length_append, rD, g_tup2, g_tup3, fNotN_at, fIsN_at, List.getElem?_cons_succ, List.getElem?_cons_zero, s_par3, s_lc, fCut_at, fAdd_lst, fAdd_tup, fList_lst, fList_tup, fTuple_lst, fMul_lst, items_lst, items_tup, range2_at, zip_at, s_body, s_seq, s_next, s_onE, s_onT, s_asg, s_par, s_for, s_raise, s_try, s_asgG, w_bind, w_pure, w_need, w_fail, w_calm, g_0, g_s, fEq_int, fNe_int, fEq_str, fNe_str, fInt_at, fInt0_at, fAdd_int, fCmp_at, fNeg_at, fLen_tup, fLen_lst, fIx_t0, fIx_l0, fIx_t1, fIx_l1, fIntC_at, fAbs_at, fGcd_at, fRepr_at, fBits_at, fIs_at, range_at, List.map_cons, List.map_nil, List.length_cons, List.length_nil, List.cons_append, List.nil_append, List.set_cons_zero, List.set_cons_succ, List.replicate, Nat.reduceAdd, Nat.reduceSub, List.append_nil, dName, true_and, and_true, Nat.zero_add, Nat.sub_self]
    refine ⟨l, rfl, by omega, ?_⟩
    refine fEq_data (eqOk_T l _ (by omega)).1 (eqOk_T l _ (by omega)).1 ?_
    have ez : eqD (dT l q) (dT l (zT l)) = zB l q := by rw [Bool.eq_iff_iff, eqD_T, zB_iff]
    rw [ez]
    unfold rootB at hk
    try simp only [cut_last, fIx_last, dT_succ, lsub, rL_succ, rL_len, List.length_append, rD, g_tup2, g_tup3, fNotN_at, fIsN_at, List.getElem?_cons_succ, List.getElem?_cons_zero, s_par3, s_lc, fCut_at, fAdd_lst, fAdd_tup, fList_lst, fList_tup, fTuple_lst, fMul_lst, items_lst, items_tup, range2_at, zip_at, s_body, s_seq, s_next, s_onE, s_onT, s_asg, s_par, s_for, s_raise, s_try, s_asgG, w_bind, w_pure, w_need, w_fail, w_calm, g_0, g_s, fEq_int, fNe_int, fEq_str, fNe_str, fInt_at, fInt0_at, fAdd_int, fCmp_at, fNeg_at, fLen_tup, fLen_lst, fIx_t0, fIx_l0, fIx_t1, fIx_l1, fIntC_at, fAbs_at, fGcd_at, fRepr_at, fBits_at, fIs_at, range_at, List.map_cons, List.map_nil, List.length_cons, List.length_nil, List.cons_append, List.nil_append, List.set_cons_zero, List.set_cons_succ, List.replicate, Nat.reduceAdd, Nat.reduceSub, List.append_nil, dName, true_and, and_true, Nat.zero_add, Nat.sub_self]
    by_cases hz : zB l q = true
    · refine ifT hz ?_
      rw [hz] at hk
      exact hk
    · refine ifF hz ?_
      have hz : zB l q = false := by simpa using hz
      rw [hz] at hk
      have c12 : cc l ≤ 12 := cc2 l2
      have bqq := Bd.mul hr bq bq
      refine prod_T (p := 190000) (by omega) hr hg (by omega) (bp.mono (by omega)) (bp.mono (by omega)) ?_
      refine prod_T (p := 190000) (by omega) hr hg (by omega) (bq.mono (by omega)) (bq.mono (by omega)) ?_
      refine prod_T (p := 190000) (by omega) hr hg (by omega) (hy.mono (by omega)) (bqq.mono (by omega)) ?_
      refine fEq_data (eqOk_T l _ (by omega)).1 (eqOk_T l _ (by omega)).1 ?_
      rw [eqD_flT]
      exact hk


abbrev CELLS (L : Nat) : List (Str × Addr) := cellsFrom (L + 1) (defScope s_law).names []
abbrev e_1 : Expr := lamOfIter ((defBody s_law).getD 4 (.Pass ⟨0, 0, 0, 0⟩))
theorem cloN_1 (h_is_grid_root : DefG P w K mg base "is_grid_root" ["roots", "number", "value"] 17 (w_is_grid_root C_BadRow)) {L : Nat} {r : CloR} (hr : LamR (CELLS L) (lamP e_1) (lamB e_1) (lamS e_1) r) : ∃ m, CloSpN P w K mg base 18 r m ∧ ∀ x0 x1 Kd Kx n, w_is_grid_root C_BadRow [x0, x1, .non] Kd Kx n → m [x0, x1] Kd Kx n := by
  obtain ⟨f_is_grid_root, d_is_grid_root, G_is_grid_root, n_is_grid_root, q_is_grid_root, b_is_grid_root⟩ := h_is_grid_root.ex
  obtain ⟨q0, p0, b0, s0, c0, pm0, cd0, ct0⟩ := r
  obtain ⟨h1, h2, h3, h4, h5⟩ := hr
  dsimp only at h1 h2 h3 h4 h5
  subst h1 h2 h3 h4 h5
  refine ⟨_, cloP_ok (N := ["roots", "number"]) (k := 17) ⟨rfl, rfl, rfl, (show ∀ y ∈ (lamS e_1).names, y.2 ≠ .cell ∧ y.2 ≠ .free by decide +kernel), rfl, by decide, (show ∀ y ∈ (["roots", "number"] : List Str), (lamS e_1).names.lookup y = some .local by decide +kernel), fun us hl => match us, hl with | [_, _], _ => rfl⟩ (fun A outer s H E f hg hr => (DE.call (fun _ => G_is_grid_root) (fun _ => hg) (fun _ => hr.mono (by omega)) (fun _ => takes_of rfl rfl rfl rfl) (fun _ => by rfl) (fun _ => n_is_grid_root) (fun _ => q_is_grid_root) (fun _ => b_is_grid_root) (DA.cons (DE.var fun _ => pv 0) (DA.cons (DE.var fun _ => pv 1) (DA.cons DE.non DA.nil))))), fun x0 x1 Kd Kx n h => ⟨rfl, ?_⟩⟩
  simp only [s_body, s_seq, s_next, s_onE, s_onT, s_asg, s_par, s_for, s_raise, s_try, s_asgG, w_bind, w_pure, w_need, w_fail, w_calm, g_0, g_s, fEq_int, fNe_int, fEq_str, fNe_str, fInt_at, fInt0_at, fAdd_int, fCmp_at, fNeg_at, fLen_tup, fLen_lst, fIx_t0, fIx_l0, fIx_t1, fIx_l1, fIntC_at, fAbs_at, fGcd_at, fRepr_at, fBits_at, fIs_at, range_at, List.map_cons, List.map_nil, List.length_cons, List.length_nil, List.cons_append, List.nil_append, List.set_cons_zero, List.set_cons_succ, List.replicate, Nat.reduceAdd, Nat.reduceSub, List.append_nil, dName, true_and, and_true, Nat.zero_add, Nat.sub_self]
  exact h
abbrev e_2 : Expr := lamOfFirst ((forBody ((defBody s_law).getD 4 (.Pass ⟨0, 0, 0, 0⟩))).getD 0 (.Pass ⟨0, 0, 0, 0⟩))
theorem clo_2  {L : Nat} {r : CloR} (hr : LamR (CELLS L) (lamP e_2) (lamB e_2) (lamS e_2) r) {x0 x1 x2 : D} (hp : [x0, x1, x2].all bareB = true) : ∃ m, CloSp P w K mg base 19 r [x0, x1, x2] m ∧ ∀ Kd Kx n, keepD K x1 ∧ actW P w K mg base 18 x1 [x0, x2] Kd Kx n → m Kd Kx n := by
  obtain ⟨q0, p0, b0, s0, c0, pm0, cd0, ct0⟩ := r
  obtain ⟨h1, h2, h3, h4, h5⟩ := hr
  dsimp only at h1 h2 h3 h4 h5
  subst h1 h2 h3 h4 h5
  refine ⟨_, clo_okB (N := ["wrong", "work", "bad"]) (k := 18) (cloScope_mk rfl rfl rfl (show ∀ y ∈ (lamS e_2).names, y.2 ≠ .local ∧ y.2 ≠ .cell by decide +kernel) (by rfl) (by decide) (show ∀ p ∈ (lamS e_2).names, p.2 = .free → p.1 ∈ (["wrong", "work", "bad"] : List Str) by decide +kernel) (by rw [show (cloFrom (CELLS L) (lamS e_2).names []).map (·.2) = [L + 1 + 1 + 1 + 1 + 1 + 1, L + 1 + 1 + 1 + 1 + 1, L + 1 + 1 + 1 + 1] from rfl]; first | (simp; done) | (simp; omega)) (by rfl)) hp (fun A outer s H E f hg hr => (DE.actN (fun _ => ⟨rfl, rfl, rfl, rfl, rfl⟩) (fun _ => hg) (fun _ => hr) (fun _ => takes_of rfl rfl rfl rfl) (fun _ => pv 1) (DA.cons (DE.var fun _ => pv 0) (DA.cons (DE.var fun _ => pv 2) DA.nil)))), fun Kd Kx n h => ?_⟩
  simp only [s_body, s_seq, s_next, s_onE, s_onT, s_asg, s_par, s_for, s_raise, s_try, s_asgG, w_bind, w_pure, w_need, w_fail, w_calm, g_0, g_s, fEq_int, fNe_int, fEq_str, fNe_str, fInt_at, fInt0_at, fAdd_int, fCmp_at, fNeg_at, fLen_tup, fLen_lst, fIx_t0, fIx_l0, fIx_t1, fIx_l1, fIntC_at, fAbs_at, fGcd_at, fRepr_at, fBits_at, fIs_at, range_at, List.map_cons, List.map_nil, List.length_cons, List.length_nil, List.cons_append, List.nil_append, List.set_cons_zero, List.set_cons_succ, List.replicate, Nat.reduceAdd, Nat.reduceSub, List.append_nil, dName, true_and, and_true, Nat.zero_add, Nat.sub_self]
  exact h
abbrev e_3 : Expr := lamOfAppend ((forBody ((defBody s_law).getD 4 (.Pass ⟨0, 0, 0, 0⟩))).getD 1 (.Pass ⟨0, 0, 0, 0⟩))
theorem clo_3  {L : Nat} {r : CloR} (hr : LamR (CELLS L) (lamP e_3) (lamB e_3) (lamS e_3) r) {x0 x1 : D} (hp : [x0, x1].all bareB = true) : ∃ m, CloSp P w K mg base 19 r [x0, x1] m ∧ ∀ Kd Kx n, keepD K x0 ∧ actW P w K mg base 18 x0 [.tup [.int 2], x1] Kd Kx n → m Kd Kx n := by
  obtain ⟨q0, p0, b0, s0, c0, pm0, cd0, ct0⟩ := r
  obtain ⟨h1, h2, h3, h4, h5⟩ := hr
  dsimp only at h1 h2 h3 h4 h5
  subst h1 h2 h3 h4 h5
  refine ⟨_, clo_okB (N := ["work", "bad"]) (k := 18) (cloScope_mk rfl rfl rfl (show ∀ y ∈ (lamS e_3).names, y.2 ≠ .local ∧ y.2 ≠ .cell by decide +kernel) (by rfl) (by decide) (show ∀ p ∈ (lamS e_3).names, p.2 = .free → p.1 ∈ (["work", "bad"] : List Str) by decide +kernel) (by rw [show (cloFrom (CELLS L) (lamS e_3).names []).map (·.2) = [L + 1 + 1 + 1 + 1 + 1, L + 1 + 1 + 1 + 1] from rfl]; first | (simp; done) | (simp; omega)) (by rfl)) hp (fun A outer s H E f hg hr => (DE.actN (fun _ => ⟨rfl, rfl, rfl, rfl, rfl⟩) (fun _ => hg) (fun _ => hr) (fun _ => takes_of rfl rfl rfl rfl) (fun _ => pv 0) (DA.cons (DE.cst (.tup [.int 2]) (by rfl)) (DA.cons (DE.var fun _ => pv 1) DA.nil)))), fun Kd Kx n h => ?_⟩
  simp only [s_body, s_seq, s_next, s_onE, s_onT, s_asg, s_par, s_for, s_raise, s_try, s_asgG, w_bind, w_pure, w_need, w_fail, w_calm, g_0, g_s, fEq_int, fNe_int, fEq_str, fNe_str, fInt_at, fInt0_at, fAdd_int, fCmp_at, fNeg_at, fLen_tup, fLen_lst, fIx_t0, fIx_l0, fIx_t1, fIx_l1, fIntC_at, fAbs_at, fGcd_at, fRepr_at, fBits_at, fIs_at, range_at, List.map_cons, List.map_nil, List.length_cons, List.length_nil, List.cons_append, List.nil_append, List.set_cons_zero, List.set_cons_succ, List.replicate, Nat.reduceAdd, Nat.reduceSub, List.append_nil, dName, true_and, and_true, Nat.zero_add, Nat.sub_self]
  exact h
abbrev CAPS : List Str := ["work", "wrong", "bad"]
abbrev OKC (L : Nat) : CloR → Prop := fun r => ∀ p ∈ r.cl, p.1 ∈ CAPS ∧ (CELLS L).lookup p.1 = some p.2
theorem okc {L : Nat} {e : Expr} {r : CloR} {l : List (Str × Addr)} (he : cloFrom (CELLS L) (lamS e).names [] = l) (hl : ∀ p ∈ l, p ∈ ([("bad", L + 1 + 1 + 1 + 1), ("work", L + 1 + 1 + 1 + 1 + 1), ("wrong", L + 1 + 1 + 1 + 1 + 1 + 1)] : List (Str × Addr))) (hr : LamR (CELLS L) (lamP e) (lamB e) (lamS e) r) : OKC L r := by
  intro p hp
  rw [hr.cl, he] at hp
  have h := hl p hp
  simp only [List.mem_cons, List.not_mem_nil, or_false] at h
  rcases h with rfl | rfl | rfl
  · exact ⟨by simp, rfl⟩
  · exact ⟨by simp, rfl⟩
  · exact ⟨by simp, rfl⟩
theorem okrow {L : Nat} {r : CloR} {d : D} {ds : List D} (h1 : OKC L r) (h2 : plainD d = true) (h3 : tellOkL (OKC L) ds) : tellOkL (OKC L) (.tup [.clo false r [], d] :: ds) := by
  unfold tellOkL
  refine ⟨?_, h3⟩
  unfold tellOk tellOkL
  refine ⟨?_, ?_⟩
  · unfold tellOk; exact h1
  · unfold tellOkL; exact ⟨tellOk_plain h2, by unfold tellOkL; trivial⟩
theorem tell_row {cap : Str → D} {r : CloR} {cs : List D} {d : D} (hc : r.cl.map (fun p => cap p.1) = cs) (hd : plainD d = true) : tellD cap (.tup [.clo false r [], d]) = .tup [.clo true r cs, d] := by
  simp only [tellD, tellL, hc, tell_plain hd]
theorem tells_law {L : Nat} {r2 r3 : CloR} (hr2 : LamR (CELLS L) (lamP e_2) (lamB e_2) (lamS e_2) r2) (hr3 : LamR (CELLS L) (lamP e_3) (lamB e_3) (lamS e_3) r3) {bad wrong : D} (p2 : plainD bad = true) (p3 : plainD wrong = true) : tellOkL (OKC L) [.lst [.tup [.clo false r2 [], .tup [.str "row", wrong]], .tup [.clo false r3 [], .tup [.str "row", bad]]]] := by
  have rb : plainD (.tup [.str "row", bad]) = true := by simp [plainD, plainL, p2]
  have rw_ : plainD (.tup [.str "row", wrong]) = true := by simp [plainD, plainL, p3]
  unfold tellOkL
  refine ⟨?_, by unfold tellOkL; trivial⟩
  unfold tellOk
  refine okrow (okc (e := e_2) (l := [("wrong", L + 1 + 1 + 1 + 1 + 1 + 1), ("work", L + 1 + 1 + 1 + 1 + 1), ("bad", L + 1 + 1 + 1 + 1)]) rfl (by simp) hr2) rw_ ?_
  refine okrow (okc (e := e_3) (l := [("work", L + 1 + 1 + 1 + 1 + 1), ("bad", L + 1 + 1 + 1 + 1)]) rfl (by simp) hr3) rb ?_
  unfold tellOkL; trivial
abbrev BAD : List D := [.non, .bl true, .str "1", .tup [.int 1], .tup [.int 1, .int 2, .int 3], .tup [.tup [.int 1, .int 2], .int 3], .tup [.int 1, .str "2"]]
abbrev WRONG : List D := [.non, .int 5, .tup [.int 4], .tup [.int 0], .tup [.int 2, .int 3], .tup [.int 2, .tup [.int 2, .int 0]], .tup [.int 2, .tup [.int 3, .int 2]], .tup [.str "2"], .tup [.int 1, .int 2, .int 3, .int 4], .tup [.bl true]]
theorem bad_facts {bad : D} (h : bad ∈ BAD) : okDp 6 bad = true ∧ plainD bad = true ∧ isPl 1 (tupled bad) = false ∧ Shows (.tup [.str "row", bad]) := by
  simp only [List.mem_cons, List.not_mem_nil, or_false] at h
  rcases h with rfl | rfl | rfl | rfl | rfl | rfl | rfl <;> exact ⟨by decide +kernel, by decide +kernel, by decide +kernel, shows_of (by decide +kernel) (by decide +kernel) (by decide +kernel) (by decide +kernel)⟩
abbrev R2' : Rt 1 := ((), (2 : Int))
theorem wrong_facts {wrong : D} (h : wrong ∈ WRONG) : okDp 6 wrong = true ∧ plainD wrong = true ∧ noRoots wrong ∧ Shows (.tup [.str "row", wrong]) := by
  simp only [List.mem_cons, List.not_mem_nil, or_false] at h
  have sh : ∀ d : D, ((flatD d || tupD d) && tinyB d && decide ((pyD d).depth ≤ 40) && decide ((pyD d).bulk ≤ 1000)) = true → Shows d := fun d h => by
    simp only [Bool.and_eq_true, decide_eq_true_eq] at h
    exact shows_of h.1.1.1 h.1.1.2 h.1.2 h.2
  have rb1 : RB 1 R2' := ⟨trivial, show (2 : Int).natAbs < 2 ^ 3 by decide⟩
  have g1 : goodR 1 R2' = true := by decide +kernel
  rcases h with rfl | rfl | rfl | rfl | rfl | rfl | rfl | rfl | rfl | rfl
  · exact ⟨by decide +kernel, by decide +kernel, .inl rfl, sh _ (by decide +kernel)⟩
  · exact ⟨by decide +kernel, by decide +kernel, .inl rfl, sh _ (by decide +kernel)⟩
  · exact ⟨by decide +kernel, by decide +kernel, .inr (.inr ⟨0, (), .int 4, [], rfl, by decide, trivial, rfl, .inr ⟨(4 : Int), rfl, show (4 : Int).natAbs < 2 ^ 3 by decide, by decide +kernel⟩⟩), sh _ (by decide +kernel)⟩
  · exact ⟨by decide +kernel, by decide +kernel, .inr (.inr ⟨0, (), .int 0, [], rfl, by decide, trivial, rfl, .inr ⟨(0 : Int), rfl, show (0 : Int).natAbs < 2 ^ 3 by decide, by decide +kernel⟩⟩), sh _ (by decide +kernel)⟩
  · exact ⟨by decide +kernel, by decide +kernel, .inr (.inr ⟨1, R2', .int 3, [], rfl, by decide, rb1, g1, .inl rfl⟩), sh _ (by decide +kernel)⟩
  · exact ⟨by decide +kernel, by decide +kernel, .inr (.inr ⟨1, R2', .tup [.int 2, .int 0], [], rfl, by decide, rb1, g1, .inr ⟨(show T 1 from ((2 : Int), (0 : Int))), rfl, ⟨show (2 : Int).natAbs < 2 ^ 3 by decide, show (0 : Int).natAbs < 2 ^ 3 by decide⟩, by decide +kernel⟩⟩), sh _ (by decide +kernel)⟩
  · exact ⟨by decide +kernel, by decide +kernel, .inr (.inr ⟨1, R2', .tup [.int 3, .int 2], [], rfl, by decide, rb1, g1, .inr ⟨(show T 1 from ((3 : Int), (2 : Int))), rfl, ⟨show (3 : Int).natAbs < 2 ^ 3 by decide, show (2 : Int).natAbs < 2 ^ 3 by decide⟩, by decide +kernel⟩⟩), sh _ (by decide +kernel)⟩
  · exact ⟨by decide +kernel, by decide +kernel, .inr (.inr ⟨0, (), .str "2", [], rfl, by decide, trivial, rfl, .inl rfl⟩), sh _ (by decide +kernel)⟩
  · exact ⟨by decide +kernel, by decide +kernel, .inr (.inl ⟨_, rfl, by decide⟩), sh _ (by decide +kernel)⟩
  · exact ⟨by decide +kernel, by decide +kernel, .inr (.inr ⟨0, (), .bl true, [], rfl, by decide, trivial, rfl, .inl rfl⟩), sh _ (by decide +kernel)⟩
/-- a function that may be asked: roots and a number that are none raise -/
def WorkOk (P : Program) (w : World) (K : PySem.W.Frag) (mg : Str → Option Value) (base : Heap) (CR : Addr) (work : D) : Prop := bareB work = true ∧ keepD K work ∧ ∀ (rs x : D) (Kd : D → Nat → Prop) (Kx : XD → Nat → Prop) (n : Nat), okDp 6 rs = true → okDp 6 x = true →
  ((∃ (l : Nat) (r : Rt l), okRoots rs l r ∧ isPl l (tupled x) = false ∧ Kx ⟨CR, ["row"], [x]⟩ n) ∨ (noRoots rs ∧ Kx ⟨CR, ["row"], [rs]⟩ n)) → actW P w K mg base 18 work [rs, x] Kd Kx n
theorem due_law {L : Nat} {r2 r3 : CloR} (hr2 : LamR (CELLS L) (lamP e_2) (lamB e_2) (lamS e_2) r2) (hr3 : LamR (CELLS L) (lamP e_3) (lamB e_3) (lamS e_3) r3) {work bad wrong : D} (hwork : WorkOk P w K mg base C_BadRow work) (hbad : bad ∈ BAD) (hwrong : wrong ∈ WRONG) {Kd : D → Nat → Prop} {X : XD → Nat → Prop} {n : Nat} (hk : Kd (.bl true) n) :
    w_due P w K mg base 19 C_BadRow C_BadNumber (tellL (fun y => if y = "work" then work else if y = "wrong" then wrong else bad) [.lst [.tup [.clo false r2 [], .tup [.str "row", wrong]], .tup [.clo false r3 [], .tup [.str "row", bad]]]]) Kd X n := by
  obtain ⟨b1, b2, b3, b4⟩ := bad_facts hbad
  obtain ⟨w1, w2, w3, w4⟩ := wrong_facts hwrong
  obtain ⟨k1, k2, k3⟩ := hwork
  have rb : plainD (.tup [.str "row", bad]) = true := by simp [plainD, plainL, b2]
  have rw_ : plainD (.tup [.str "row", wrong]) = true := by simp [plainD, plainL, w2]
  have p2 : [wrong, work, bad].all bareB = true := by simp [bare_plain b2, bare_plain w2, k1]
  have p3 : [work, bad].all bareB = true := by simp [bare_plain b2, k1]
  have e : tellL (fun y => if y = "work" then work else if y = "wrong" then wrong else bad) [.lst [.tup [.clo false r2 [], .tup [.str "row", wrong]], .tup [.clo false r3 [], .tup [.str "row", bad]]]] = [.lst [.tup [.clo true r2 [wrong, work, bad], .tup [.str "row", wrong]], .tup [.clo true r3 [work, bad], .tup [.str "row", bad]]]] := by
    have c2 : r2.cl.map (fun p => (fun y : Str => if y = "work" then work else if y = "wrong" then wrong else bad) p.1) = [wrong, work, bad] := by rw [hr2.cl]; rfl
    have c3 : r3.cl.map (fun p => (fun y : Str => if y = "work" then work else if y = "wrong" then wrong else bad) p.1) = [work, bad] := by rw [hr3.cl]; rfl
    unfold tellL
    refine congr (congrArg List.cons ?_) (by unfold tellL; rfl)
    unfold tellD
    refine congrArg D.lst ?_
    unfold tellL
    refine congr (congrArg List.cons (tell_row c2 rw_)) ?_
    unfold tellL
    refine congr (congrArg List.cons (tell_row c3 rb)) ?_
    unfold tellL
    rfl
  rw [e]
  obtain ⟨m2, hc2, hm2⟩ := clo_2 (P := P) (w := w) (K := K) (mg := mg) (base := base) hr2 p2
  obtain ⟨m3, hc3, hm3⟩ := clo_3 (P := P) (w := w) (K := K) (mg := mg) (base := base) hr3 p3
  refine ⟨_, rfl, by simp, ?_, hk⟩
  intro t ht
  simp only [List.mem_cons, List.not_mem_nil, or_false] at ht
  rcases ht with rfl | rfl
  · exact ⟨r2, _, m2, _, rfl, hc2, w4, fun Kd Kx hx => hm2 _ _ _ ⟨k2, k3 _ _ _ _ _ w1 b1 (.inr ⟨w3, hx _ (.inl ⟨_, rfl, rfl⟩)⟩)⟩⟩
  · exact ⟨r3, _, m3, _, rfl, hc3, b4, fun Kd Kx hx => hm3 _ _ _ ⟨k2, k3 _ _ _ _ _ (by decide +kernel) b1 (.inl ⟨1, R2', ⟨rfl, by decide, ⟨trivial, show (2 : Int).natAbs < 2 ^ 3 by decide⟩, by decide +kernel⟩, b3, hx _ (.inl ⟨_, rfl, rfl⟩)⟩)⟩⟩

theorem ok_law {f c Pt : Addr} {fd : FuncData} (hcode : fd.code = .ref c) (TB : LamX.TabB base mg c Pt) (F : Fun K "law" "law" s_law f fd) (h_grid_root : DefG P w K mg base "grid_root" ["roots", "number"] (17) (w_grid_root C_BadRow)) (h__law_are_due : DefG P w K mg base "_law_are_due" ["tries"] (21) (w_due P w K mg base 19 C_BadRow C_BadNumber)) (h__law_pick : DefG P w K mg base "_law_pick" ["pen", "some"] (2) w__law_pick) (m_range : mg "range" = none) (m_all : mg "all" = none) (h__law_says : DefG P w K mg base "_law_says" ["told", "due"] (1) w__law_says) (h__law_due : DefG P w K mg base "_law_due" ["roots", "number", "value", "none"] (18) w__law_due) (h_is_grid_root : DefG P w K mg base "is_grid_root" ["roots", "number", "value"] (17) (w_is_grid_root C_BadRow)) (m_list : mg "list" = none) (h_grid_product : DefG P w K mg base "grid_product" ["roots", "one", "other"] (17) (w_grid_product C_BadRow)) (h__law_drawn : DefG P w K mg base "_law_drawn" ["pen", "level", "most"] (6) (w__law_drawn 4)) (h__law_root : DefG P w K mg base "_law_root" ["ratio"] (1) w__law_root) (h__law_q : DefG P w K mg base "_law_q" ["top", "bottom"] (2) w__law_q) (h__law_either : DefG P w K mg base "_law_either" ["pen", "thing"] (8) w__law_either) (h__law_zero_of : DefG P w K mg base "_law_zero_of" ["level"] (5) (w__law_zero_of 4)) (m_len : mg "len" = none) (h__law_pen : DefG P w K mg base "_law_pen" ["script"] (1) (w__law_pen K)) : FnG P w K mg base 22 f fd ["script"] (spD 1 (w_law K Pt)) := by
  obtain ⟨f_grid_root, d_grid_root, G_grid_root, n_grid_root, q_grid_root, b_grid_root⟩ := h_grid_root.ex
  obtain ⟨f__law_are_due, d__law_are_due, G__law_are_due, n__law_are_due, q__law_are_due, b__law_are_due⟩ := h__law_are_due.ex
  obtain ⟨f__law_pick, d__law_pick, G__law_pick, n__law_pick, q__law_pick, b__law_pick⟩ := h__law_pick.ex
  obtain ⟨f__law_says, d__law_says, G__law_says, n__law_says, q__law_says, b__law_says⟩ := h__law_says.ex
  obtain ⟨f__law_due, d__law_due, G__law_due, n__law_due, q__law_due, b__law_due⟩ := h__law_due.ex
  obtain ⟨f_is_grid_root, d_is_grid_root, G_is_grid_root, n_is_grid_root, q_is_grid_root, b_is_grid_root⟩ := h_is_grid_root.ex
  obtain ⟨f_grid_product, d_grid_product, G_grid_product, n_grid_product, q_grid_product, b_grid_product⟩ := h_grid_product.ex
  obtain ⟨f__law_drawn, d__law_drawn, G__law_drawn, n__law_drawn, q__law_drawn, b__law_drawn⟩ := h__law_drawn.ex
  obtain ⟨f__law_root, d__law_root, G__law_root, n__law_root, q__law_root, b__law_root⟩ := h__law_root.ex
  obtain ⟨f__law_q, d__law_q, G__law_q, n__law_q, q__law_q, b__law_q⟩ := h__law_q.ex
  obtain ⟨f__law_either, d__law_either, G__law_either, n__law_either, q__law_either, b__law_either⟩ := h__law_either.ex
  obtain ⟨f__law_zero_of, d__law_zero_of, G__law_zero_of, n__law_zero_of, q__law_zero_of, b__law_zero_of⟩ := h__law_zero_of.ex
  obtain ⟨f__law_pen, d__law_pen, G__law_pen, n__law_pen, q__law_pen, b__law_pen⟩ := h__law_pen.ex
  refine fn_okL (k := 21) F sc_law (fun cdv hcd A outer s H E L hL hg hr => (DSs.cons (DS.set (k := 1) (fun _ => sc_law.nd) (fun _ => rfl) (fun _ => (.inl rfl)) (DE.call (fun _ => G__law_pen) (fun _ => hg) (fun _ => hr.mono (by omega)) (fun _ => takes_of rfl rfl rfl rfl) (fun _ => by rfl) (fun _ => n__law_pen) (fun _ => q__law_pen) (fun _ => b__law_pen) (DA.cons (DE.var fun _ => pv 0) DA.nil)))
    (DSs.cons (DS.for (fun _ => passes_of rfl) (fun _ => rfl) (DI.range1 (fun _ => by rfl) (fun _ => m_range) (DA.cons DE.int DA.nil)) (DG.name (k := 2) (fun _ => pg_name sc_law.nd rfl (.inl rfl))) (DSs.cons (DS.set (k := 3) (fun _ => sc_law.nd) (fun _ => rfl) (fun _ => (.inr rfl)) (DE.call (fun _ => G__law_pick) (fun _ => hg) (fun _ => hr.mono (by omega)) (fun _ => takes_of rfl rfl rfl rfl) (fun _ => by rfl) (fun _ => n__law_pick) (fun _ => q__law_pick) (fun _ => b__law_pick) (DA.cons (DE.var fun _ => pv 1) (DA.cons (DE.cst (.lst [.tup [], .tup [.int 2], .tup [.int (-1)], .tup [.int 3], .tup [.int 2, .tup [.int 3, .int 0]], .tup [.int (-1), .tup [.int 2, .int 0]], .tup [.int 2, .tup [.int 1, .int 1]], .tup [.int 5, .tup [.int (-1), .int 0]]]) (by rfl)) DA.nil))))
    (DSs.cons (DS.set (k := 4) (fun _ => sc_law.nd) (fun _ => rfl) (fun _ => (.inl rfl)) (DE.opL (fun _ _ ha => pe_callB call_lenA (by rfl) m_len (by decide +kernel) ha) sem_len (DA.cons (DE.var fun _ => pv 3) DA.nil)))
    (DSs.cons (DS.par (i := 5) (j := 6) (fun _ => rfl) (fun _ => sc_law.nd) (fun _ => rfl) (fun _ => rfl) (by decide) (fun _ => rfl) (fun _ => rfl) (DA.cons (DE.call (fun _ => G__law_drawn) (fun _ => hg) (fun _ => hr.mono (by omega)) (fun _ => takes_of rfl rfl rfl rfl) (fun _ => by rfl) (fun _ => n__law_drawn) (fun _ => q__law_drawn) (fun _ => b__law_drawn) (DA.cons (DE.var fun _ => pv 1) (DA.cons (DE.var fun _ => pv 4) (DA.cons DE.int DA.nil)))) (DA.cons (DE.call (fun _ => G__law_drawn) (fun _ => hg) (fun _ => hr.mono (by omega)) (fun _ => takes_of rfl rfl rfl rfl) (fun _ => by rfl) (fun _ => n__law_drawn) (fun _ => q__law_drawn) (fun _ => b__law_drawn) (DA.cons (DE.var fun _ => pv 1) (DA.cons (DE.var fun _ => pv 4) (DA.cons DE.int DA.nil)))) DA.nil)) (fun _ => by rfl))
    (DSs.cons (DS.par (i := 7) (j := 8) (fun _ => rfl) (fun _ => sc_law.nd) (fun _ => rfl) (fun _ => rfl) (by decide) (fun _ => rfl) (fun _ => rfl) (DA.cons (DE.call (fun _ => G_grid_product) (fun _ => hg) (fun _ => hr.mono (by omega)) (fun _ => takes_of rfl rfl rfl rfl) (fun _ => by rfl) (fun _ => n_grid_product) (fun _ => q_grid_product) (fun _ => b_grid_product) (DA.cons (DE.var fun _ => pv 3) (DA.cons (DE.var fun _ => pv 5) (DA.cons (DE.var fun _ => pv 5) DA.nil)))) (DA.cons (DE.call (fun _ => G__law_zero_of) (fun _ => hg) (fun _ => hr.mono (by omega)) (fun _ => takes_of rfl rfl rfl rfl) (fun _ => by rfl) (fun _ => n__law_zero_of) (fun _ => q__law_zero_of) (fun _ => b__law_zero_of) (DA.cons (DE.var fun _ => pv 4) DA.nil)) DA.nil)) (fun _ => by rfl))
    (DSs.cons (DS.set (k := 9) (fun _ => sc_law.nd) (fun _ => rfl) (fun _ => (.inl rfl)) (DE.call (fun _ => G_grid_root) (fun _ => hg) (fun _ => hr.mono (by omega)) (fun _ => takes_of rfl rfl rfl rfl) (fun _ => by rfl) (fun _ => n_grid_root) (fun _ => q_grid_root) (fun _ => b_grid_root) (DA.cons (DE.call (fun _ => G__law_either) (fun _ => hg) (fun _ => hr.mono (by omega)) (fun _ => takes_of rfl rfl rfl rfl) (fun _ => by rfl) (fun _ => n__law_either) (fun _ => q__law_either) (fun _ => b__law_either) (DA.cons (DE.var fun _ => pv 1) (DA.cons (DE.var fun _ => pv 3) DA.nil))) (DA.cons (DE.call (fun _ => G__law_either) (fun _ => hg) (fun _ => hr.mono (by omega)) (fun _ => takes_of rfl rfl rfl rfl) (fun _ => by rfl) (fun _ => n__law_either) (fun _ => q__law_either) (fun _ => b__law_either) (DA.cons (DE.var fun _ => pv 1) (DA.cons (DE.var fun _ => pv 7) DA.nil))) DA.nil))))
    (DSs.cons (DS.ifS (DW.pt (DW.or (DT.cmp (fun _ => op_isN) sem_isN (DE.var fun _ => pv 9) DE.non) (DW.or1 (DT.not (DT.val (DE.call (fun _ => G__law_due) (fun _ => hg) (fun _ => hr.mono (by omega)) (fun _ => takes_of rfl rfl rfl rfl) (fun _ => by rfl) (fun _ => n__law_due) (fun _ => q__law_due) (fun _ => b__law_due) (DA.cons (DE.var fun _ => pv 3) (DA.cons (DE.var fun _ => pv 7) (DA.cons (DE.var fun _ => pv 9) (DA.cons DE.bl DA.nil)))))))))) (DSs.one (DS.ret DE.bl)) DSs.nil)
    (DSs.cons (DS.set (k := 10) (fun _ => sc_law.nd) (fun _ => rfl) (fun _ => (.inl rfl)) (DE.call (fun _ => G_grid_product) (fun _ => hg) (fun _ => hr.mono (by omega)) (fun _ => takes_of rfl rfl rfl rfl) (fun _ => by rfl) (fun _ => n_grid_product) (fun _ => q_grid_product) (fun _ => b_grid_product) (DA.cons (DE.var fun _ => pv 3) (DA.cons (DE.var fun _ => pv 7) (DA.cons (DE.var fun _ => pv 6) DA.nil)))))
    (DSs.cons (DS.set (k := 11) (fun _ => sc_law.nd) (fun _ => rfl) (fun _ => (.inl rfl)) (DE.call (fun _ => G_grid_root) (fun _ => hg) (fun _ => hr.mono (by omega)) (fun _ => takes_of rfl rfl rfl rfl) (fun _ => by rfl) (fun _ => n_grid_root) (fun _ => q_grid_root) (fun _ => b_grid_root) (DA.cons (DE.var fun _ => pv 3) (DA.cons (DE.var fun _ => pv 10) DA.nil))))
    (DSs.cons (DS.ifS (DW.pt (DW.and (DT.cmp (fun _ => op_notN) sem_notN (DE.var fun _ => pv 11) DE.non) (DW.and1 (DT.not (DT.val (DE.call (fun _ => G__law_due) (fun _ => hg) (fun _ => hr.mono (by omega)) (fun _ => takes_of rfl rfl rfl rfl) (fun _ => by rfl) (fun _ => n__law_due) (fun _ => q__law_due) (fun _ => b__law_due) (DA.cons (DE.var fun _ => pv 3) (DA.cons (DE.var fun _ => pv 10) (DA.cons (DE.var fun _ => pv 11) (DA.cons DE.bl DA.nil)))))))))) (DSs.one (DS.ret DE.bl)) DSs.nil)
    (DSs.cons (DS.ifS (DW.pt (DW.and (DT.cmp (fun _ => op_neA hr.units) sem_neA (DE.var fun _ => pv 5) (DE.var fun _ => pv 8)) (DW.and1 (DT.cmp (fun _ => op_neA hr.units) sem_neA (DE.cmp (fun _ => op_isN) sem_isN (DE.var fun _ => pv 11) DE.non) (DE.cmp (fun _ => op_isN) sem_isN (DE.call (fun _ => G_grid_root) (fun _ => hg) (fun _ => hr.mono (by omega)) (fun _ => takes_of rfl rfl rfl rfl) (fun _ => by rfl) (fun _ => n_grid_root) (fun _ => q_grid_root) (fun _ => b_grid_root) (DA.cons (DE.var fun _ => pv 3) (DA.cons (DE.var fun _ => pv 6) DA.nil))) DE.non))))) (DSs.one (DS.ret DE.bl)) DSs.nil)
    (DSs.cons (DS.ifS (DW.pt (DW.and (DT.cmp (fun _ => op_eqA hr.units) sem_eqA (DE.var fun _ => pv 4) DE.int) (DW.and1 (DT.cmp (fun _ => op_neA hr.units) sem_neA (DE.cmp (fun _ => op_isN) sem_isN (DE.call (fun _ => G_grid_root) (fun _ => hg) (fun _ => hr.mono (by omega)) (fun _ => takes_of rfl rfl rfl rfl) (fun _ => by rfl) (fun _ => n_grid_root) (fun _ => q_grid_root) (fun _ => b_grid_root) (DA.cons (DE.cst (.tup []) (by rfl)) (DA.cons (DE.var fun _ => pv 6) DA.nil))) DE.non) (DE.cmp (fun _ => op_isN) sem_isN (DE.call (fun _ => G__law_root) (fun _ => hg) (fun _ => hr.mono (by omega)) (fun _ => takes_of rfl rfl rfl rfl) (fun _ => by rfl) (fun _ => n__law_root) (fun _ => q__law_root) (fun _ => b__law_root) (DA.cons (DE.tup (DA.cons (DE.var fun _ => pv 6) (DA.cons DE.int DA.nil))) DA.nil)) DE.non))))) (DSs.one (DS.ret DE.bl)) DSs.nil)
    (DSs.cons (DS.ifS (DW.pt (DW.and (DT.cmp (fun _ => op_eqA hr.units) sem_eqA (DE.var fun _ => pv 4) DE.int) (DW.and (DT.cmp (fun _ => op_eqA hr.units) sem_eqA (DE.op2 (fun _ _ _ p q => pe_ix ix_seq p q (fun _ _ => rfl)) sem_ix (DE.var fun _ => pv 6) DE.int) DE.int) (DW.and1 (DT.cmp (fun _ => op_neA hr.units) sem_neA (DE.cmp (fun _ => op_isN) sem_isN (DE.call (fun _ => G_grid_root) (fun _ => hg) (fun _ => hr.mono (by omega)) (fun _ => takes_of rfl rfl rfl rfl) (fun _ => by rfl) (fun _ => n_grid_root) (fun _ => q_grid_root) (fun _ => b_grid_root) (DA.cons (DE.var fun _ => pv 3) (DA.cons (DE.var fun _ => pv 6) DA.nil))) DE.non) (DE.and (DE.cmp (fun _ => op_isN) sem_isN (DE.call (fun _ => G__law_root) (fun _ => hg) (fun _ => hr.mono (by omega)) (fun _ => takes_of rfl rfl rfl rfl) (fun _ => by rfl) (fun _ => n__law_root) (fun _ => q__law_root) (fun _ => b__law_root) (DA.cons (DE.tup (DA.cons (DE.op2 (fun _ _ _ p q => pe_ix ix_seq p q (fun _ _ => rfl)) sem_ix (DE.var fun _ => pv 6) DE.int) (DA.cons DE.int DA.nil))) DA.nil)) DE.non) (DE.one (DE.cmp (fun _ => op_isN) sem_isN (DE.call (fun _ => G__law_root) (fun _ => hg) (fun _ => hr.mono (by omega)) (fun _ => takes_of rfl rfl rfl rfl) (fun _ => by rfl) (fun _ => n__law_root) (fun _ => q__law_root) (fun _ => b__law_root) (DA.cons (DE.call (fun _ => G__law_q) (fun _ => hg) (fun _ => hr.mono (by omega)) (fun _ => takes_of rfl rfl rfl rfl) (fun _ => by rfl) (fun _ => n__law_q) (fun _ => q__law_q) (fun _ => b__law_q) (DA.cons (DE.op2 (fun _ _ _ p q => pe_ix ix_seq p q (fun _ _ => rfl)) sem_ix (DE.var fun _ => pv 6) DE.int) (DA.cons (DE.op2 (fun _ _ _ p q => pe_ix ix_seq p q (fun _ _ => rfl)) sem_ix (DE.var fun _ => pv 3) DE.int) DA.nil))) DA.nil)) DE.non)))))))) (DSs.one (DS.ret DE.bl)) DSs.nil)
    (DSs.cons (DS.ifS (DW.pt (DW.and (DT.cmp (fun _ => op_eqA hr.units) sem_eqA (DE.var fun _ => pv 4) DE.int) (DW.and (DT.cmp (fun _ => op_notN) sem_notN (DE.call (fun _ => G_grid_root) (fun _ => hg) (fun _ => hr.mono (by omega)) (fun _ => takes_of rfl rfl rfl rfl) (fun _ => by rfl) (fun _ => n_grid_root) (fun _ => q_grid_root) (fun _ => b_grid_root) (DA.cons (DE.var fun _ => pv 3) (DA.cons (DE.var fun _ => pv 6) DA.nil))) DE.non) (DW.and1 (DT.cmp (fun _ => op_isN) sem_isN (DE.call (fun _ => G__law_root) (fun _ => hg) (fun _ => hr.mono (by omega)) (fun _ => takes_of rfl rfl rfl rfl) (fun _ => by rfl) (fun _ => n__law_root) (fun _ => q__law_root) (fun _ => b__law_root) (DA.cons (DE.tup (DA.cons (DE.op2 (fun _ _ _ p q => pe_op op_sub p q) sem_int0 (DE.op2 (fun _ _ _ p q => pe_op op_mulW p q) sem_int (DE.op2 (fun _ _ _ p q => pe_ix ix_seq p q (fun _ _ => rfl)) sem_ix (DE.var fun _ => pv 6) DE.int) (DE.op2 (fun _ _ _ p q => pe_ix ix_seq p q (fun _ _ => rfl)) sem_ix (DE.var fun _ => pv 6) DE.int)) (DE.op2 (fun _ _ _ p q => pe_op op_mulW p q) sem_int (DE.op2 (fun _ _ _ p q => pe_op op_mulW p q) sem_int (DE.op2 (fun _ _ _ p q => pe_ix ix_seq p q (fun _ _ => rfl)) sem_ix (DE.var fun _ => pv 6) DE.int) (DE.op2 (fun _ _ _ p q => pe_ix ix_seq p q (fun _ _ => rfl)) sem_ix (DE.var fun _ => pv 6) DE.int)) (DE.op2 (fun _ _ _ p q => pe_ix ix_seq p q (fun _ _ => rfl)) sem_ix (DE.var fun _ => pv 3) DE.int))) (DA.cons DE.int DA.nil))) DA.nil)) DE.non))))) (DSs.one (DS.ret DE.bl)) DSs.nil)
    (DSs.cons (DS.set (k := 12) (fun _ => sc_law.nd) (fun _ => rfl) (fun _ => (.inl rfl)) (DE.lst (DA.cons (DE.tup (DA.cons (DE.var fun _ => pv 7) (DA.cons (DE.var fun _ => pv 9) (DA.cons DE.bl DA.nil)))) (DA.cons (DE.tup (DA.cons (DE.var fun _ => pv 10) (DA.cons (DE.var fun _ => pv 11) (DA.cons (DE.cmp (fun _ => op_isN) sem_isN (DE.var fun _ => pv 11) DE.non) DA.nil)))) (DA.cons (DE.tup (DA.cons (DE.var fun _ => pv 6) (DA.cons (DE.call (fun _ => G_grid_root) (fun _ => hg) (fun _ => hr.mono (by omega)) (fun _ => takes_of rfl rfl rfl rfl) (fun _ => by rfl) (fun _ => n_grid_root) (fun _ => q_grid_root) (fun _ => b_grid_root) (DA.cons (DE.var fun _ => pv 3) (DA.cons (DE.var fun _ => pv 6) DA.nil))) (DA.cons (DE.cmp (fun _ => op_isN) sem_isN (DE.call (fun _ => G_grid_root) (fun _ => hg) (fun _ => hr.mono (by omega)) (fun _ => takes_of rfl rfl rfl rfl) (fun _ => by rfl) (fun _ => n_grid_root) (fun _ => q_grid_root) (fun _ => b_grid_root) (DA.cons (DE.var fun _ => pv 3) (DA.cons (DE.var fun _ => pv 6) DA.nil))) DE.non) DA.nil)))) DA.nil)))))
    (DSs.one (DS.for (fun _ => passes_of rfl) (fun _ => rfl) (DI.seq (fun _ => rfl) (DE.var fun _ => pv 12)) (DG.tup (m := 3) (fun _ => rfl) (fun _ => rfl) (DGs.cons (DG.name (k := 13) (fun _ => pg_name sc_law.nd rfl (.inr rfl))) (DGs.cons (DG.name (k := 14) (fun _ => pg_name sc_law.nd rfl (.inl rfl))) (DGs.cons (DG.name (k := 15) (fun _ => pg_name sc_law.nd rfl (.inr rfl))) DGs.nil)))) (DSs.cons (DS.set (k := 16) (fun _ => sc_law.nd) (fun _ => rfl) (fun _ => (.inl rfl)) (DE.lst (DA.cons DE.non (DA.cons DE.int (DA.cons (DE.var fun _ => pv 14) (DA.cons (DE.var fun _ => pv 5) (DA.cons (DE.tup (DA.cons (DE.var fun _ => pv 5) (DA.cons (DE.var fun _ => pv 8) DA.nil))) (DA.cons (DE.tup (DA.cons (DE.var fun _ => pv 5) (DA.cons (DE.call (fun _ => G__law_drawn) (fun _ => hg) (fun _ => hr.mono (by omega)) (fun _ => takes_of rfl rfl rfl rfl) (fun _ => by rfl) (fun _ => n__law_drawn) (fun _ => q__law_drawn) (fun _ => b__law_drawn) (DA.cons (DE.var fun _ => pv 1) (DA.cons (DE.var fun _ => pv 4) (DA.cons DE.int DA.nil)))) DA.nil))) (DA.cons (DE.tup (DA.cons (DE.var fun _ => pv 5) DA.nil)) (DA.cons (DE.lst (DA.cons (DE.var fun _ => pv 5) (DA.cons (DE.var fun _ => pv 5) DA.nil))) (DA.cons (DE.tup (DA.cons (DE.var fun _ => pv 5) (DA.cons DE.int DA.nil))) (DA.cons DE.str (DA.cons (DE.cst (.tup [.bl true, .int 1]) (by rfl)) DA.nil)))))))))))))
    (DSs.cons (DS.ifS (DT.cmp (fun _ => op_notN) sem_notN (DE.var fun _ => pv 14) DE.non) (DSs.cons (DS.set (k := 17) (fun _ => sc_law.nd) (fun _ => rfl) (fun _ => (.inl rfl)) (DE.call (fun _ => G__law_drawn) (fun _ => hg) (fun _ => hr.mono (by omega)) (fun _ => takes_of rfl rfl rfl rfl) (fun _ => by rfl) (fun _ => n__law_drawn) (fun _ => q__law_drawn) (fun _ => b__law_drawn) (DA.cons (DE.var fun _ => pv 1) (DA.cons (DE.var fun _ => pv 4) (DA.cons DE.int DA.nil)))))
    (DSs.one (DS.set (k := 16) (fun _ => sc_law.nd) (fun _ => rfl) (fun _ => (.inl rfl)) (DE.op2 (fun _ _ _ p q => pe_op op_addA p q) sem_add (DE.var fun _ => pv 16) (DE.lst (DA.cons (DE.tup (DA.cons (DE.call (fun _ => G_grid_product) (fun _ => hg) (fun _ => hr.mono (by omega)) (fun _ => takes_of rfl rfl rfl rfl) (fun _ => by rfl) (fun _ => n_grid_product) (fun _ => q_grid_product) (fun _ => b_grid_product) (DA.cons (DE.var fun _ => pv 3) (DA.cons (DE.op2 (fun _ _ _ p q => pe_ix ix_seq p q (fun _ _ => rfl)) sem_ix (DE.var fun _ => pv 14) DE.int) (DA.cons (DE.var fun _ => pv 17) DA.nil)))) (DA.cons (DE.call (fun _ => G_grid_product) (fun _ => hg) (fun _ => hr.mono (by omega)) (fun _ => takes_of rfl rfl rfl rfl) (fun _ => by rfl) (fun _ => n_grid_product) (fun _ => q_grid_product) (fun _ => b_grid_product) (DA.cons (DE.var fun _ => pv 3) (DA.cons (DE.op2 (fun _ _ _ p q => pe_ix ix_seq p q (fun _ _ => rfl)) sem_ix (DE.var fun _ => pv 14) DE.int) (DA.cons (DE.var fun _ => pv 17) DA.nil)))) DA.nil))) (DA.cons (DE.tup (DA.cons (DE.op2 (fun _ _ _ p q => pe_ix ix_seq p q (fun _ _ => rfl)) sem_ix (DE.var fun _ => pv 14) DE.int) (DA.cons (DE.op2 (fun _ _ _ p q => pe_ix ix_seq p q (fun _ _ => rfl)) sem_ix (DE.var fun _ => pv 14) DE.int) DA.nil))) (DA.cons (DE.opL (fun _ _ ha => pe_callTy call_list_of (by rfl) m_list (by decide +kernel) ha) sem_list (DA.cons (DE.var fun _ => pv 14) DA.nil)) (DA.cons (DE.tup (DA.cons (DE.op2 (fun _ _ _ p q => pe_ix ix_seq p q (fun _ _ => rfl)) sem_ix (DE.var fun _ => pv 14) DE.int) (DA.cons (DE.var fun _ => pv 8) DA.nil))) DA.nil))))))))) DSs.nil)
    (DSs.one (DS.ifS (DT.not (DT.val (DE.opL (fun _ _ ha => pe_callB (cr_all rfl) (by rfl) m_all (by decide +kernel) ha) sem_all (DA.cons (DE.lc (own := [("value", 18)]) (fun _ => rfl) (fun _ => sc_law.nd) (DI.seq (fun _ => rfl) (DE.var fun _ => pv 16)) (fun _ => blkOk_by (N := ["script", "pen", "lap", "roots", "level", "a", "b", "whole", "zero", "told", "near", "found", "some", "number", "right", "none", "values", "c", "value", "bad", "wrong", "work", "tries"]) (sc := defScope s_law) (by decide +kernel)) (DG.name (k := 18) (fun _ => pg_name sc_law.nd rfl (.inl rfl))) DTs.nil (DE.call (fun _ => G__law_says) (fun _ => hg) (fun _ => hr.mono (by omega)) (fun _ => L2.takes0) (fun _ => by rfl) (fun _ => n__law_says) (fun _ => q__law_says) (fun _ => b__law_says) (DA.cons (DE.call (fun _ => G_is_grid_root) (fun _ => hg) (fun _ => hr.mono (by omega)) (fun _ => L2.takes0) (fun _ => by rfl) (fun _ => n_is_grid_root) (fun _ => q_is_grid_root) (fun _ => b_is_grid_root) (DA.cons (DE.var fun _ => pv 3) (DA.cons (DE.var fun _ => pv 13) (DA.cons (DE.var fun _ => pv 18) DA.nil)))) (DA.cons (DE.call (fun _ => G__law_due) (fun _ => hg) (fun _ => hr.mono (by omega)) (fun _ => L2.takes0) (fun _ => by rfl) (fun _ => n__law_due) (fun _ => q__law_due) (fun _ => b__law_due) (DA.cons (DE.var fun _ => pv 3) (DA.cons (DE.var fun _ => pv 13) (DA.cons (DE.var fun _ => pv 18) (DA.cons (DE.var fun _ => pv 15) DA.nil))))) DA.nil)))) DA.nil)))) (DSs.one (DS.ret DE.bl)) DSs.nil)))))))))))))))))))))
    (DSs.cons (DS.set (k := 19) (fun _ => sc_law.nd) (fun _ => rfl) (fun _ => (.inr rfl)) (DE.call (fun _ => G__law_pick) (fun _ => hg) (fun _ => hr.mono (by omega)) (fun _ => takes_of rfl rfl rfl rfl) (fun _ => by rfl) (fun _ => n__law_pick) (fun _ => q__law_pick) (fun _ => b__law_pick) (DA.cons (DE.var fun _ => pv 1) (DA.cons (DE.cst (.lst [.non, .bl true, .str "1", .tup [.int 1], .tup [.int 1, .int 2, .int 3], .tup [.tup [.int 1, .int 2], .int 3], .tup [.int 1, .str "2"]]) (by rfl)) DA.nil))))
    (DSs.cons (DS.set (k := 20) (fun _ => sc_law.nd) (fun _ => rfl) (fun _ => (.inr rfl)) (DE.call (fun _ => G__law_pick) (fun _ => hg) (fun _ => hr.mono (by omega)) (fun _ => takes_of rfl rfl rfl rfl) (fun _ => by rfl) (fun _ => n__law_pick) (fun _ => q__law_pick) (fun _ => b__law_pick) (DA.cons (DE.var fun _ => pv 1) (DA.cons (DE.cst (.lst [.non, .int 5, .tup [.int 4], .tup [.int 0], .tup [.int 2, .int 3], .tup [.int 2, .tup [.int 2, .int 0]], .tup [.int 2, .tup [.int 3, .int 2]], .tup [.str "2"], .tup [.int 1, .int 2, .int 3, .int 4], .tup [.bl true]]) (by rfl)) DA.nil))))
    (DSs.cons (DS.for (fun _ => passes_of rfl) (fun _ => rfl) (DI.seq (fun _ => rfl) (DE.tup (DA.cons (DE.fnv (fun _ => by rfl) (fun _ => n_grid_root)) (DA.cons (DE.lam (i := 0) (cells := CELLS L) (fun _ => by subst hL; rfl) (fun _ => TB) (fun _ => hcd.symm.trans hcode) (fun _ => by rfl) (fun _ => by rfl) (fun _ => lam_free_of (sc := defScope s_law) (by decide +kernel))) DA.nil)))) (DG.name (k := 21) (fun _ => pg_name sc_law.nd rfl (.inr rfl))) (DSs.cons (DS.own (k := 22) (fun _ => sc_law.nd) (fun _ => rfl) (fun _ => (.inl rfl)) (DA.cons (DE.tup (DA.cons (DE.lam (i := 0) (cells := CELLS L) (fun _ => by subst hL; rfl) (fun _ => TB) (fun _ => hcd.symm.trans hcode) (fun _ => by rfl) (fun _ => by rfl) (fun _ => lam_free_of (sc := defScope s_law) (by decide +kernel))) (DA.cons (DE.tup (DA.cons DE.str (DA.cons (DE.var fun _ => pv 20) DA.nil))) DA.nil))) DA.nil))
    (DSs.cons (DS.append (k := 22) (fun _ => rfl) (fun _ => pv 22) (DE.tup (DA.cons (DE.lam (i := 0) (cells := CELLS L) (fun _ => by subst hL; rfl) (fun _ => TB) (fun _ => hcd.symm.trans hcode) (fun _ => by rfl) (fun _ => by rfl) (fun _ => lam_free_of (sc := defScope s_law) (by decide +kernel))) (DA.cons (DE.tup (DA.cons DE.str (DA.cons (DE.var fun _ => pv 19) DA.nil))) DA.nil))) (fun _ _ ha => pe_bm PySem.F.plainAttrs_list PySem.F.slot_list_append PySem.F.type_list_append mt_append (pv 22) ha))
    (DSs.freeze 22 (DSs.one (DS.ifS (DT.not (DT.val (DE.tellB (caps := ["work", "wrong", "bad"]) (idx := (fun y : Str => if y = "work" then 21 else if y = "wrong" then 20 else if y = "bad" then 19 else 0)) (cells := CELLS L) (fun _ => by subst hL; rfl) (fun _ => G__law_are_due) (fun _ => hg) (fun _ => hr.mono (by omega)) (fun _ => by rfl) (fun _ => n__law_are_due) (fun _ => q__law_are_due) (fun _ => b__law_are_due) (fun _ _ _ => rfl) (fun _ => (show ∀ y ∈ (["work", "wrong", "bad"] : List Str), (defScope s_law).names.lookup y = some .cell ∧ (["script", "pen", "lap", "roots", "level", "a", "b", "whole", "zero", "told", "near", "found", "some", "number", "right", "none", "values", "c", "value", "bad", "wrong", "work", "tries"] : List Str)[(fun y : Str => if y = "work" then 21 else if y = "wrong" then 20 else if y = "bad" then 19 else 0) y]? = some y by decide +kernel)) (DA.cons (DE.var fun _ => pv 22) DA.nil)))) (DSs.one (DS.ret DE.bl)) DSs.nil))))))
    (DSs.one (DS.ret DE.bl)))))))) fun L ds Kd Kx n hl h => ?_
  obtain ⟨ns, tabs, rfl, hlen, hPt, rfl, hk⟩ := h
  simp only [cut_last, fIx_last, dT_succ, lsub, rL_succ, rL_len, List.length_append, rD, g_tup2, g_tup3, fNotN_at, fIsN_at, List.getElem?_cons_succ, List.getElem?_cons_zero, s_par3, s_lc, fCut_at, fAdd_lst, fAdd_tup, fList_lst, fList_tup, fTuple_lst, fMul_lst, items_lst, items_tup, range2_at, zip_at, s_body, s_seq, s_next, s_onE, s_onT, s_asg, s_par, s_for, s_raise, s_try, s_asgG, w_bind, w_pure, w_need, w_fail, w_calm, g_0, g_s, fEq_int, fNe_int, fEq_str, fNe_str, fInt_at, fInt0_at, fAdd_int, fCmp_at, fNeg_at, fLen_tup, fLen_lst, fIx_t0, fIx_l0, fIx_t1, fIx_l1, fIntC_at, fAbs_at, fGcd_at, fRepr_at, fBits_at, fIs_at, range_at, List.map_cons, List.map_nil, List.length_cons, List.length_nil, List.cons_append, List.nil_append, List.set_cons_zero, List.set_cons_succ, List.replicate, Nat.reduceAdd, Nat.reduceSub, List.append_nil, dName, true_and, and_true, Nat.zero_add, Nat.sub_self]
  refine ⟨⟨rfl, hlen⟩, ⟨by decide, by decide⟩, ?_⟩
  have h4 : (rangeD 0 (4 : Int).toNat).length = 4 := rfl
  refine forD_inv (fun k ρ n => ∃ x2 x3 x4 x5 x6 x7 x8 x9 x10 x11 x12 x13 x14 x15 x16 x17 x18 : Option SV, ρ = [some (.d (.scr K ns tabs)), some (.d .pen), x2, x3, x4, x5, x6, x7, x8, x9, x10, x11, x12, x13, x14, x15, x16, x17, x18, none, none, none, none] ∧ n + 1000 * k ≤ 10000) _ _ _ ⟨none, none, none, none, none, none, none, none, none, none, none, none, none, none, none, none, none, rfl, by rw [h4]; decide⟩ (fun ρ n hi => ?_) fun k d ρ n E' hd hi hnx hbk hrt hex => ?_
  · obtain ⟨x2, x3, x4, x5, x6, x7, x8, x9, x10, x11, x12, x13, x14, x15, x16, x17, x18, rfl, hn⟩ := hi
    simp only [w_bind, w_pure, w_need, w_calm, g_0, g_s, dName, List.length_cons, List.length_nil, Nat.reduceAdd, Nat.zero_add, true_and, List.set_cons_succ, List.set_cons_zero]
    refine ⟨⟨by decide, by decide, by omega⟩, fun bad hbad => ?_⟩
    simp only [w_bind, w_pure, w_need, w_calm, g_0, g_s, dName, List.length_cons, List.length_nil, Nat.reduceAdd, Nat.zero_add, true_and, List.set_cons_succ, List.set_cons_zero]
    refine ⟨⟨by decide, by decide, by omega⟩, fun wrong hwrong => ?_⟩
    refine ⟨hPt, fun r1 hr1 => ⟨fits_small (by simp), ?_⟩⟩
    have hw1 : WorkOk P w K mg base C_BadRow (.fnA f_grid_root) := ⟨rfl, q_grid_root, fun rs x Kd Kx n h1 h2 h3 => ⟨d_grid_root, _, w_grid_root C_BadRow, G_grid_root.mono (by decide), b_grid_root, rs, x, rfl, h1, h2, .inr h3⟩⟩
    have hw2 : WorkOk P w K mg base C_BadRow (.clo false r1 []) := by
      obtain ⟨m, hm1, hm2⟩ := cloN_1 h_is_grid_root hr1
      refine ⟨?_, trivial, fun rs x Kd Kx n h1 h2 h3 => ⟨m, hm1, hm2 _ _ _ _ _ ⟨rs, x, .non, rfl, h1, h2, rfl, .inr h3⟩⟩⟩
      show (r1.cl.isEmpty && true) = true
      rw [hr1.cl]
      rfl
    refine forD_inv (fun q ρ n => ∃ x21 x22 : Option SV, ρ = [some (.d (.scr K ns tabs)), some (.d .pen), x2, x3, x4, x5, x6, x7, x8, x9, x10, x11, x12, x13, x14, x15, x16, x17, x18, some (.d bad), some (.d wrong), x21, x22]) _ _ _ ⟨none, none, rfl⟩ (fun ρ n hi => ?_) fun q work ρ n E3 hwd hi hnx3 hbk3 hrt3 hex3 => ?_
    · obtain ⟨x21, x22, rfl⟩ := hi
      exact hk _
    obtain ⟨x21, x22, rfl⟩ := hi
    have hwork : WorkOk P w K mg base C_BadRow work := by
      simp only [List.mem_cons, List.not_mem_nil, or_false] at hwd
      rcases hwd with rfl | rfl
      · exact hw1
      · exact hw2
    show dOwn 22 _ _ _ _
    refine own_intro ?_
    refine ⟨hPt, fun r2 hr2 => ⟨fits_small (by simp), fits_small (by simp), fits_small (by simp), ?_⟩⟩
    dsimp only
    refine app_intro (ds := [.tup [.clo false r2 [], .tup [.str "row", wrong]]]) rfl ?_
    refine ⟨hPt, fun r3 hr3 => ⟨fits_small (by simp), fits_small (by simp), by rw [sizeLine_eq]; simp, ?_⟩⟩
    dsimp only
    refine frz_intro (ds := [.tup [.clo false r2 [], .tup [.str "row", wrong]], .tup [.clo false r3 [], .tup [.str "row", bad]]]) rfl ?_
    obtain ⟨b1, b2, b3, b4⟩ := bad_facts hbad
    obtain ⟨w1, w2, w3, w4⟩ := wrong_facts hwrong
    refine ⟨rfl, fun y => if y = "work" then work else if y = "wrong" then wrong else bad, ?_, ?_, ?_⟩
    · intro y hy
      simp only [List.mem_cons, List.not_mem_nil, or_false] at hy
      rcases hy with rfl | rfl | rfl
      · exact ⟨rfl, hwork.1⟩
      · exact ⟨rfl, bare_plain w2⟩
      · exact ⟨rfl, bare_plain b2⟩
    · exact tells_law hr2 hr3 b2 w2
    · refine due_law hr2 hr3 hwork hbad hwrong ⟨rfl, ?_⟩
      show if (!true) = true then E3.rt (.bl false) n else E3.nx _ n
      exact ifF (by simp) (hnx3 _ _ ⟨_, _, rfl⟩)
  · obtain ⟨x2, x3, x4, x5, x6, x7, x8, x9, x10, x11, x12, x13, x14, x15, x16, x17, x18, rfl, hn⟩ := hi
    refine seq_split (fun ρ' n' => ∃ rs, rs ∈ EIGHT ∧ ρ' = [some (.d (.scr K ns tabs)), some (.d .pen), some (.d d), some (.d rs), x4, x5, x6, x7, x8, x9, x10, x11, x12, x13, x14, x15, x16, x17, x18, none, none, none, none] ∧ n' + 1000 * k ≤ 9100) ?R1 (fun nx hnx1 => ?S1)
    case S1 =>
      rw [s_asg]
      simp only [s_onT, s_onE, w_bind, w_pure, w_need, w_calm, g_0, g_s, dName, List.length_cons, List.length_nil, Nat.reduceAdd, Nat.zero_add, true_and, List.set_cons_succ, List.set_cons_zero]
      refine ⟨⟨by decide, by decide, by omega⟩, fun rs hrs => ?_⟩
      exact hnx1 _ _ ⟨rs, hrs, rfl, by omega⟩
    intro ρ n hi
    obtain ⟨rs, hrs, rfl, hn⟩ := hi
    obtain ⟨l, r, rfl, hl, hr, hg, hc, hlow⟩ := eight hrs
    have hl3 : l ≤ 3 := by omega
    have hcc := cc2 hl
    have h8 : 2 ^ l ≤ 2 ^ 2 := Nat.pow_le_pow_right (by decide) hl
    refine seq_split (fun ρ' n' => ρ' = [some (.d (.scr K ns tabs)), some (.d .pen), some (.d d), some (.d (rD l r)), some (.d (.int l)), x5, x6, x7, x8, x9, x10, x11, x12, x13, x14, x15, x16, x17, x18, none, none, none, none] ∧ n' + 1000 * k ≤ 9100) ?R2 (fun nx hnx1 => ?S2)
    case S2 =>
      rw [s_asg]
      simp only [w_bind, w_pure, w_calm, g_0, g_s, rD, fLen_tup, rL_len, List.set_cons_succ, List.set_cons_zero]
      exact hnx1 _ _ ⟨rfl, hn⟩
    intro ρ n hi
    obtain ⟨rfl, hn⟩ := hi
    refine seq_split (fun ρ' n' => ∃ a b : T l, Mx l 3 a ∧ Mx l 2 b ∧ ρ' = [some (.d (.scr K ns tabs)), some (.d .pen), some (.d d), some (.d (rD l r)), some (.d (.int l)), some (.d (dT l a)), some (.d (dT l b)), x7, x8, x9, x10, x11, x12, x13, x14, x15, x16, x17, x18, none, none, none, none] ∧ n' + 1000 * k ≤ 9200) ?R3 (fun nx hnx1 => ?S3)
    case S3 =>
      rw [s_par]
      simp only [s_onT, s_onE, w_bind, w_pure, w_need, w_calm, g_0, g_s, dName, List.length_cons, List.length_nil, Nat.reduceAdd, Nat.zero_add, true_and, List.set_cons_succ, List.set_cons_zero]
      refine ⟨l, 3, rfl, ⟨by omega, hl3, by decide, by decide, by omega⟩, fun a ha => ?_⟩
      refine ⟨l, 2, rfl, ⟨by omega, hl3, by decide, by decide, by omega⟩, fun b hb => ?_⟩
      exact hnx1 _ _ ⟨a, b, ha, hb, rfl, by omega⟩
    intro ρ n hi
    obtain ⟨a, b, ha, hb, rfl, hn⟩ := hi
    have ba := mx_bd2 ha
    have bb := mx_bd2 (mx_mono hb (by decide))
    have g31 : ∀ {w : T l}, Bd l 2 w → Bd l 31 w := fun h => h.mono (by decide)
    obtain ⟨whole, ew⟩ : ∃ w, w = mulT l r a a := ⟨_, rfl⟩
    have bw : Bd l (2 + 2 + cc l) whole := by rw [ew]; exact Bd.mul hr ba ba
    have bw31 : Bd l 31 whole := bw.mono (by omega)
    refine seq_split (fun ρ' n' => ρ' = [some (.d (.scr K ns tabs)), some (.d .pen), some (.d d), some (.d (rD l r)), some (.d (.int l)), some (.d (dT l a)), some (.d (dT l b)), some (.d (dT l whole)), some (.d (dT l (zT l))), x9, x10, x11, x12, x13, x14, x15, x16, x17, x18, none, none, none, none] ∧ n' + 1000 * k ≤ 9200) ?R4 (fun nx hnx1 => ?S4)
    case S4 =>
      rw [s_par]
      simp only [s_onT, s_onE, w_bind, w_pure, w_need, w_calm, g_0, g_s, dName, List.length_cons, List.length_nil, Nat.reduceAdd, Nat.zero_add, true_and, List.set_cons_succ, List.set_cons_zero]
      refine prod_T hl3 hr hg (p := 2) (by omega) ba ba ?_
      rw [← ew]
      exact ⟨l, rfl, by omega, hnx1 _ _ ⟨rfl, hn⟩⟩
    intro ρ n hi
    obtain ⟨rfl, hn⟩ := hi
    obtain ⟨g, eg⟩ : ∃ g, rootIn l r whole = some g := by
      cases e : rootIn l r whole with
      | none => exact absurd (by rw [← ew]; exact e) (told_ok hc a)
      | some g => exact ⟨g, rfl⟩
    obtain ⟨bg1, bg2⟩ := told_bd hl hr (bw31.mono (cap31 hl)) eg
    refine seq_split (fun ρ' n' => ρ' = [some (.d (.scr K ns tabs)), some (.d .pen), some (.d d), some (.d (rD l r)), some (.d (.int l)), some (.d (dT l a)), some (.d (dT l b)), some (.d (dT l whole)), some (.d (dT l (zT l))), some (.d (.tup [dT l g.1, dT l g.2])), x10, x11, x12, x13, x14, x15, x16, x17, x18, none, none, none, none] ∧ n' + 1000 * k ≤ 9300) ?R5 (fun nx hnx1 => ?S5)
    case S5 =>
      rw [s_asg]
      simp only [s_onT, s_onE, w_bind, w_pure, w_need, w_calm, g_0, g_s, dName, List.length_cons, List.length_nil, Nat.reduceAdd, Nat.zero_add, true_and, List.set_cons_succ, List.set_cons_zero]
      refine eith (okDp_rD hl3 r) (by omega) fun rs' e1 o1 => ?_
      refine eith (okD_T hl whole) (by omega) fun x' e2 o2 => ?_
      rw [tupled_rD] at e1
      rw [tupled_T] at e2
      refine root_T hl hr hg e1 o1 e2 o2 bw31 ?_
      rw [eg]
      exact hnx1 _ _ ⟨rfl, by omega⟩
    intro ρ n hi
    obtain ⟨rfl, hn⟩ := hi
    refine seq_split (fun ρ' n' => ρ' = [some (.d (.scr K ns tabs)), some (.d .pen), some (.d d), some (.d (rD l r)), some (.d (.int l)), some (.d (dT l a)), some (.d (dT l b)), some (.d (dT l whole)), some (.d (dT l (zT l))), some (.d (.tup [dT l g.1, dT l g.2])), x10, x11, x12, x13, x14, x15, x16, x17, x18, none, none, none, none] ∧ n' + 1000 * k ≤ 9300) ?R6 (fun nx hnx1 => ?S6)
    case S6 =>
      simp only [s_onT, s_onE, w_bind, w_pure, w_need, w_calm, g_0, g_s, fIsN_at, fNotN_at, fEq_int, dName, List.length_cons, List.length_nil, Nat.reduceAdd, Nat.zero_add, true_and, List.set_cons_succ, List.set_cons_zero]
      rw [w_ite]
      refine ifF (by simp [nonB]) ?_
      simp only [s_onT, s_onE, w_bind, w_pure, w_need, w_calm, g_0, g_s, fIsN_at, fNotN_at, fEq_int, dName, List.length_cons, List.length_nil, Nat.reduceAdd, Nat.zero_add, true_and, List.set_cons_succ, List.set_cons_zero]
      refine due_T hl hr hg bw31 (cls_pair hl (bg1.mono (by decide)) (bg2.mono (by decide))) (.inr (.inr ⟨g.1, g.2, rfl, bg1.mono (by decide), bg2.mono (by decide), ?_⟩))
      rw [root_is hc eg]
      simp only [s_onT, s_onE, w_bind, w_pure, w_need, w_calm, g_0, g_s, fIsN_at, fNotN_at, fEq_int, dName, List.length_cons, List.length_nil, Nat.reduceAdd, Nat.zero_add, true_and, List.set_cons_succ, List.set_cons_zero]
      refine ifF (by simp) ?_
      exact hnx1 _ _ ⟨rfl, hn⟩
    intro ρ n hi
    obtain ⟨rfl, hn⟩ := hi
    obtain ⟨near, en⟩ : ∃ w, w = mulT l r whole b := ⟨_, rfl⟩
    have bn : Bd l (2 + 2 + cc l + 2 + cc l) near := by rw [en]; exact Bd.mul hr bw bb
    have bn31 : Bd l 31 near := bn.mono (by omega)
    refine seq_split (fun ρ' n' => ρ' = [some (.d (.scr K ns tabs)), some (.d .pen), some (.d d), some (.d (rD l r)), some (.d (.int l)), some (.d (dT l a)), some (.d (dT l b)), some (.d (dT l whole)), some (.d (dT l (zT l))), some (.d (.tup [dT l g.1, dT l g.2])), some (.d (dT l near)), x11, x12, x13, x14, x15, x16, x17, x18, none, none, none, none] ∧ n' + 1000 * k ≤ 9300) ?R7 (fun nx hnx1 => ?S7)
    case S7 =>
      rw [s_asg]
      simp only [s_onT, s_onE, w_bind, w_pure, w_need, w_calm, g_0, g_s, dName, List.length_cons, List.length_nil, Nat.reduceAdd, Nat.zero_add, true_and, List.set_cons_succ, List.set_cons_zero]
      refine prod_T hl3 hr hg (p := 31) (by omega) bw31 (g31 bb) ?_
      rw [← en]
      exact hnx1 _ _ ⟨rfl, hn⟩
    intro ρ n hi
    obtain ⟨rfl, hn⟩ := hi
    refine seq_split (fun ρ' n' => ρ' = [some (.d (.scr K ns tabs)), some (.d .pen), some (.d d), some (.d (rD l r)), some (.d (.int l)), some (.d (dT l a)), some (.d (dT l b)), some (.d (dT l whole)), some (.d (dT l (zT l))), some (.d (.tup [dT l g.1, dT l g.2])), some (.d (dT l near)), some (.d (optT l (rootIn l r near))), x12, x13, x14, x15, x16, x17, x18, none, none, none, none] ∧ n' + 1000 * k ≤ 9300) ?R8 (fun nx hnx1 => ?S8)
    case S8 =>
      rw [s_asg]
      simp only [s_onT, s_onE, w_bind, w_pure, w_need, w_calm, g_0, g_s, dName, List.length_cons, List.length_nil, Nat.reduceAdd, Nat.zero_add, true_and, List.set_cons_succ, List.set_cons_zero]
      refine root_T' hl hr hg bn31 ?_
      exact hnx1 _ _ ⟨rfl, hn⟩
    intro ρ n hi
    obtain ⟨rfl, hn⟩ := hi
    refine seq_split (fun ρ' n' => ρ' = [some (.d (.scr K ns tabs)), some (.d .pen), some (.d d), some (.d (rD l r)), some (.d (.int l)), some (.d (dT l a)), some (.d (dT l b)), some (.d (dT l whole)), some (.d (dT l (zT l))), some (.d (.tup [dT l g.1, dT l g.2])), some (.d (dT l near)), some (.d (optT l (rootIn l r near))), x12, x13, x14, x15, x16, x17, x18, none, none, none, none] ∧ n' + 1000 * k ≤ 9300) ?R9 (fun nx hnx1 => ?S9)
    case S9 =>
      simp only [s_onT, s_onE, w_bind, w_pure, w_need, w_calm, g_0, g_s, fIsN_at, fNotN_at, fEq_int, dName, List.length_cons, List.length_nil, Nat.reduceAdd, Nat.zero_add, true_and, List.set_cons_succ, List.set_cons_zero]
      rw [w_ite, nonB_opt]
      rcases opt_cases (rootIn l r near) with e | ⟨g2, e⟩
      · refine ifF (by rw [e]; simp) ?_
        simp only [s_onT, s_onE, w_bind, w_pure, w_need, w_calm, g_0, g_s, fIsN_at, fNotN_at, fEq_int, dName, List.length_cons, List.length_nil, Nat.reduceAdd, Nat.zero_add, true_and, List.set_cons_succ, List.set_cons_zero]
        refine ifF (by simp) ?_
        exact hnx1 _ _ ⟨rfl, hn⟩
      · refine ifT (by rw [e]; rfl) ?_
        simp only [s_onT, s_onE, w_bind, w_pure, w_need, w_calm, g_0, g_s, fIsN_at, fNotN_at, fEq_int, dName, List.length_cons, List.length_nil, Nat.reduceAdd, Nat.zero_add, true_and, List.set_cons_succ, List.set_cons_zero]
        obtain ⟨c1, c2⟩ := told_bd hl hr (bn31.mono (cap31 hl)) e
        refine due_T hl hr hg bn31 (cls_opt hl hr bn31) (.inr (.inr ⟨g2.1, g2.2, by rw [e]; rfl, c1.mono (by decide), c2.mono (by decide), ?_⟩))
        rw [root_is hc e]
        simp only [s_onT, s_onE, w_bind, w_pure, w_need, w_calm, g_0, g_s, fIsN_at, fNotN_at, fEq_int, dName, List.length_cons, List.length_nil, Nat.reduceAdd, Nat.zero_add, true_and, List.set_cons_succ, List.set_cons_zero]
        refine ifF (by simp) ?_
        exact hnx1 _ _ ⟨rfl, hn⟩
    intro ρ n hi
    obtain ⟨rfl, hn⟩ := hi
    refine seq_split (fun ρ' n' => ρ' = [some (.d (.scr K ns tabs)), some (.d .pen), some (.d d), some (.d (rD l r)), some (.d (.int l)), some (.d (dT l a)), some (.d (dT l b)), some (.d (dT l whole)), some (.d (dT l (zT l))), some (.d (.tup [dT l g.1, dT l g.2])), some (.d (dT l near)), some (.d (optT l (rootIn l r near))), x12, x13, x14, x15, x16, x17, x18, none, none, none, none] ∧ n' + 1000 * k ≤ 9300) ?R10 (fun nx hnx1 => ?S10)
    case S10 =>
      simp only [s_onT, s_onE, w_bind, w_pure, w_need, w_calm, g_0, g_s, fIsN_at, fNotN_at, fEq_int, dName, List.length_cons, List.length_nil, Nat.reduceAdd, Nat.zero_add, true_and, List.set_cons_succ, List.set_cons_zero]
      refine fNe_data (eqOk_T l _ (by omega)).1 (eqOk_T l _ (by omega)).1 ?_
      simp only [s_onT, s_onE, w_bind, w_pure, w_need, w_calm, g_0, g_s, fIsN_at, fNotN_at, fEq_int, dName, List.length_cons, List.length_nil, Nat.reduceAdd, Nat.zero_add, true_and, List.set_cons_succ, List.set_cons_zero]
      rw [w_ite]
      by_cases hz : a = zT l
      · refine ifF (by rw [(eqD_T l a (zT l)).mpr hz]; simp) ?_
        simp only [s_onT, s_onE, w_bind, w_pure, w_need, w_calm, g_0, g_s, fIsN_at, fNotN_at, fEq_int, dName, List.length_cons, List.length_nil, Nat.reduceAdd, Nat.zero_add, true_and, List.set_cons_succ, List.set_cons_zero]
        refine ifF (by simp) ?_
        exact hnx1 _ _ ⟨rfl, hn⟩
      · have hf : eqD (dT l a) (dT l (zT l)) = false := by
          cases q : eqD (dT l a) (dT l (zT l)) with
          | false => rfl
          | true => exact absurd ((eqD_T l a (zT l)).mp q) hz
        refine ifT (by rw [hf]; rfl) ?_
        simp only [s_onT, s_onE, w_bind, w_pure, w_need, w_calm, g_0, g_s, fIsN_at, fNotN_at, fEq_int, dName, List.length_cons, List.length_nil, Nat.reduceAdd, Nat.zero_add, true_and, List.set_cons_succ, List.set_cons_zero]
        refine root_T' hl hr hg (g31 bb) ?_
        try simp only [s_onT, s_onE, w_bind, w_pure, w_need, w_calm, g_0, g_s, fIsN_at, fNotN_at, fEq_int, dName, List.length_cons, List.length_nil, Nat.reduceAdd, Nat.zero_add, true_and, List.set_cons_succ, List.set_cons_zero]
        have e : nonB (optT l (rootIn l r near)) = nonB (optT l (rootIn l r b)) := by
          rw [nonB_opt, nonB_opt]
          refine isNone_same ?_
          rw [en, ew]
          exact near_iff hc hz b
        rw [e]
        refine fNe_bl ?_
        simp only [s_onT, s_onE, w_bind, w_pure, w_need, w_calm, g_0, g_s, fIsN_at, fNotN_at, fEq_int, dName, List.length_cons, List.length_nil, Nat.reduceAdd, Nat.zero_add, true_and, List.set_cons_succ, List.set_cons_zero]
        refine ifF (by simp) ?_
        exact hnx1 _ _ ⟨rfl, hn⟩
    intro ρ n hi
    obtain ⟨rfl, hn⟩ := hi
    refine seq_split (fun ρ' n' => ρ' = [some (.d (.scr K ns tabs)), some (.d .pen), some (.d d), some (.d (rD l r)), some (.d (.int l)), some (.d (dT l a)), some (.d (dT l b)), some (.d (dT l whole)), some (.d (dT l (zT l))), some (.d (.tup [dT l g.1, dT l g.2])), some (.d (dT l near)), some (.d (optT l (rootIn l r near))), x12, x13, x14, x15, x16, x17, x18, none, none, none, none] ∧ n' + 1000 * k ≤ 9300) ?R11 (fun nx hnx1 => ?S11)
    case S11 =>
      simp only [s_onT, s_onE, w_bind, w_pure, w_need, w_calm, g_0, g_s, fIsN_at, fNotN_at, fEq_int, dName, List.length_cons, List.length_nil, Nat.reduceAdd, Nat.zero_add, true_and, List.set_cons_succ, List.set_cons_zero]
      rw [w_ite]
      by_cases h0 : l = 0
      · subst h0
        refine ifT (by simp) ?_
        simp only [s_onT, s_onE, w_bind, w_pure, w_need, w_calm, g_0, g_s, fIsN_at, fNotN_at, fEq_int, dName, List.length_cons, List.length_nil, Nat.reduceAdd, Nat.zero_add, true_and, List.set_cons_succ, List.set_cons_zero]
        refine root_T (l := 0) (r := r) (y := b) hl hr hg rfl rfl (tupled_T 0 b) (okD_T hl b) (g31 bb) ?_
        try simp only [s_onT, s_onE, w_bind, w_pure, w_need, w_calm, g_0, g_s, fIsN_at, fNotN_at, fEq_int, dName, List.length_cons, List.length_nil, Nat.reduceAdd, Nat.zero_add, true_and, List.set_cons_succ, List.set_cons_zero]
        have h1 : -2 ≤ (show Int from b) := hb.1
        have h2 : (show Int from b) ≤ 2 := hb.2
        refine ⟨fits_small (by simp), (show Int from b), 1, rfl, ⟨small1000 (by omega), small1000 (by decide), by decide⟩, ?_⟩
        simp only [s_onT, s_onE, w_bind, w_pure, w_need, w_calm, g_0, g_s, fIsN_at, fNotN_at, fEq_int, dName, List.length_cons, List.length_nil, Nat.reduceAdd, Nat.zero_add, true_and, List.set_cons_succ, List.set_cons_zero]
        have e : nonB (optT 0 (rootIn 0 r b)) = nonB (rootQ (show Int from b) 1) := by
          rw [nonB_opt]
          exact chk0 hb
        rw [e]
        refine fNe_bl ?_
        simp only [s_onT, s_onE, w_bind, w_pure, w_need, w_calm, g_0, g_s, fIsN_at, fNotN_at, fEq_int, dName, List.length_cons, List.length_nil, Nat.reduceAdd, Nat.zero_add, true_and, List.set_cons_succ, List.set_cons_zero]
        refine ifF (by simp) ?_
        exact hnx1 _ _ ⟨rfl, hn⟩
      · refine ifF (by simpa using h0) ?_
        simp only [s_onT, s_onE, w_bind, w_pure, w_need, w_calm, g_0, g_s, fIsN_at, fNotN_at, fEq_int, dName, List.length_cons, List.length_nil, Nat.reduceAdd, Nat.zero_add, true_and, List.set_cons_succ, List.set_cons_zero]
        refine ifF (by simp) ?_
        exact hnx1 _ _ ⟨rfl, hn⟩
    intro ρ n hi
    obtain ⟨rfl, hn⟩ := hi
    refine seq_split (fun ρ' n' => ρ' = [some (.d (.scr K ns tabs)), some (.d .pen), some (.d d), some (.d (rD l r)), some (.d (.int l)), some (.d (dT l a)), some (.d (dT l b)), some (.d (dT l whole)), some (.d (dT l (zT l))), some (.d (.tup [dT l g.1, dT l g.2])), some (.d (dT l near)), some (.d (optT l (rootIn l r near))), x12, x13, x14, x15, x16, x17, x18, none, none, none, none] ∧ n' + 1000 * k ≤ 9300) ?R12 (fun nx hnx1 => ?S12)
    case S12 =>
      simp only [s_onT, s_onE, w_bind, w_pure, w_need, w_calm, g_0, g_s, fIsN_at, fNotN_at, fEq_int, dName, List.length_cons, List.length_nil, Nat.reduceAdd, Nat.zero_add, true_and, List.set_cons_succ, List.set_cons_zero]
      rw [w_ite]
      by_cases h0 : l = 1
      · subst h0
        refine ifT (by simp) ?_
        obtain ⟨i, j, d1, eb, er, ⟨q1, q2, q3, q4⟩, ⟨q5, q6, q7⟩, q8, q9, q10⟩ := one_facts hlow hb
        rw [eb, er]
        simp only [s_onT, s_onE, w_bind, w_pure, w_need, w_calm, g_0, g_s, fIsN_at, fNotN_at, fEq_int, fIx_t0, fIx_t1, fInt_at, fInt0_at, dName, List.length_cons, List.length_nil, Nat.reduceAdd, Nat.zero_add, true_and, List.set_cons_succ, List.set_cons_zero]
        rw [w_ite]
        by_cases hz : j = 0
        · refine ifT (by simpa using hz) ?_
          simp only [s_onT, s_onE, w_bind, w_pure, w_need, w_calm, g_0, g_s, fIsN_at, fNotN_at, fEq_int, fIx_t0, fIx_t1, fInt_at, fInt0_at, dName, List.length_cons, List.length_nil, Nat.reduceAdd, Nat.zero_add, true_and, List.set_cons_succ, List.set_cons_zero]
          rw [← eb, ← er]
          refine root_T' hl hr hg (g31 bb) ?_
          rw [eb, er]
          try simp only [s_onT, s_onE, w_bind, w_pure, w_need, w_calm, g_0, g_s, fIsN_at, fNotN_at, fEq_int, fIx_t0, fIx_t1, fInt_at, fInt0_at, dName, List.length_cons, List.length_nil, Nat.reduceAdd, Nat.zero_add, true_and, List.set_cons_succ, List.set_cons_zero]
          refine ⟨fits_small (by simp), i, 1, rfl, ⟨small1000 q1, small1000 (by decide), by decide⟩, ?_⟩
          have ec := q8 hz
          try simp only [s_onT, s_onE, w_bind, w_pure, w_need, w_calm, g_0, g_s, fIsN_at, fNotN_at, fEq_int, fIx_t0, fIx_t1, fInt_at, fInt0_at, dName, List.length_cons, List.length_nil, Nat.reduceAdd, Nat.zero_add, true_and, List.set_cons_succ, List.set_cons_zero]
          cases q : nonB (rootQ i 1) with
          | false =>
            rw [q, Bool.false_and] at ec
            try simp only [s_onT, s_onE, w_bind, w_pure, w_need, w_calm, g_0, g_s, fIsN_at, fNotN_at, fEq_int, fIx_t0, fIx_t1, fInt_at, fInt0_at, dName, List.length_cons, List.length_nil, Nat.reduceAdd, Nat.zero_add, true_and, List.set_cons_succ, List.set_cons_zero]
            rw [ec]
            refine fNe_bl ?_
            simp only [s_onT, s_onE, w_bind, w_pure, w_need, w_calm, g_0, g_s, fIsN_at, fNotN_at, fEq_int, fIx_t0, fIx_t1, fInt_at, fInt0_at, dName, List.length_cons, List.length_nil, Nat.reduceAdd, Nat.zero_add, true_and, List.set_cons_succ, List.set_cons_zero]
            refine ifF (by simp) ?_
            refine hnx1 _ _ ⟨?_, hn⟩
            rw [eb, er]
          | true =>
            rw [q, Bool.true_and] at ec
            try simp only [s_onT, s_onE, w_bind, w_pure, w_need, w_calm, g_0, g_s, fIsN_at, fNotN_at, fEq_int, fIx_t0, fIx_t1, fInt_at, fInt0_at, dName, List.length_cons, List.length_nil, Nat.reduceAdd, Nat.zero_add, true_and, List.set_cons_succ, List.set_cons_zero]
            refine ⟨⟨small200 q1, small200 q3, q4⟩, ?_⟩
            try simp only [s_onT, s_onE, w_bind, w_pure, w_need, w_calm, g_0, g_s, fIsN_at, fNotN_at, fEq_int, fIx_t0, fIx_t1, fInt_at, fInt0_at, dName, List.length_cons, List.length_nil, Nat.reduceAdd, Nat.zero_add, true_and, List.set_cons_succ, List.set_cons_zero]
            refine ⟨_, _, rfl, ⟨small1000 q5, small1000 q6, q7⟩, ?_⟩
            try simp only [s_onT, s_onE, w_bind, w_pure, w_need, w_calm, g_0, g_s, fIsN_at, fNotN_at, fEq_int, fIx_t0, fIx_t1, fInt_at, fInt0_at, dName, List.length_cons, List.length_nil, Nat.reduceAdd, Nat.zero_add, true_and, List.set_cons_succ, List.set_cons_zero]
            rw [ec]
            refine fNe_bl ?_
            simp only [s_onT, s_onE, w_bind, w_pure, w_need, w_calm, g_0, g_s, fIsN_at, fNotN_at, fEq_int, fIx_t0, fIx_t1, fInt_at, fInt0_at, dName, List.length_cons, List.length_nil, Nat.reduceAdd, Nat.zero_add, true_and, List.set_cons_succ, List.set_cons_zero]
            refine ifF (by simp) ?_
            refine hnx1 _ _ ⟨?_, hn⟩
            rw [eb, er]
        · refine ifF (by simpa using hz) ?_
          simp only [s_onT, s_onE, w_bind, w_pure, w_need, w_calm, g_0, g_s, fIsN_at, fNotN_at, fEq_int, fIx_t0, fIx_t1, fInt_at, fInt0_at, dName, List.length_cons, List.length_nil, Nat.reduceAdd, Nat.zero_add, true_and, List.set_cons_succ, List.set_cons_zero]
          refine ifF (by simp) ?_
          refine hnx1 _ _ ⟨?_, hn⟩
          rw [eb, er]
      · refine ifF (by simpa using (by omega : ¬ ((l : Int) = 1))) ?_
        simp only [s_onT, s_onE, w_bind, w_pure, w_need, w_calm, g_0, g_s, fIsN_at, fNotN_at, fEq_int, dName, List.length_cons, List.length_nil, Nat.reduceAdd, Nat.zero_add, true_and, List.set_cons_succ, List.set_cons_zero]
        refine ifF (by simp) ?_
        exact hnx1 _ _ ⟨rfl, hn⟩
    intro ρ n hi
    obtain ⟨rfl, hn⟩ := hi
    refine seq_split (fun ρ' n' => ρ' = [some (.d (.scr K ns tabs)), some (.d .pen), some (.d d), some (.d (rD l r)), some (.d (.int l)), some (.d (dT l a)), some (.d (dT l b)), some (.d (dT l whole)), some (.d (dT l (zT l))), some (.d (.tup [dT l g.1, dT l g.2])), some (.d (dT l near)), some (.d (optT l (rootIn l r near))), x12, x13, x14, x15, x16, x17, x18, none, none, none, none] ∧ n' + 1000 * k ≤ 9300) ?R13 (fun nx hnx1 => ?S13)
    case S13 =>
      simp only [s_onT, s_onE, w_bind, w_pure, w_need, w_calm, g_0, g_s, fIsN_at, fNotN_at, fEq_int, dName, List.length_cons, List.length_nil, Nat.reduceAdd, Nat.zero_add, true_and, List.set_cons_succ, List.set_cons_zero]
      rw [w_ite]
      by_cases h0 : l = 1
      · subst h0
        refine ifT (by simp) ?_
        obtain ⟨i, j, d1, eb, er, ⟨q1, q2, q3, q4⟩, ⟨q5, q6, q7⟩, q8, q9, q10⟩ := one_facts hlow hb
        simp only [s_onT, s_onE, w_bind, w_pure, w_need, w_calm, g_0, g_s, fIsN_at, fNotN_at, fEq_int, fIx_t0, fIx_t1, fInt_at, fInt0_at, dName, List.length_cons, List.length_nil, Nat.reduceAdd, Nat.zero_add, true_and, List.set_cons_succ, List.set_cons_zero]
        refine root_T' hl hr hg (g31 bb) ?_
        try simp only [s_onT, s_onE, w_bind, w_pure, w_need, w_calm, g_0, g_s, fIsN_at, fNotN_at, fEq_int, fIx_t0, fIx_t1, fInt_at, fInt0_at, dName, List.length_cons, List.length_nil, Nat.reduceAdd, Nat.zero_add, true_and, List.set_cons_succ, List.set_cons_zero]
        rw [w_ite, nonB_opt]
        rcases opt_cases (rootIn 1 r b) with e | ⟨g2, e⟩
        · refine ifF (by rw [e]; simp) ?_
          simp only [s_onT, s_onE, w_bind, w_pure, w_need, w_calm, g_0, g_s, fIsN_at, fNotN_at, fEq_int, fIx_t0, fIx_t1, fInt_at, fInt0_at, dName, List.length_cons, List.length_nil, Nat.reduceAdd, Nat.zero_add, true_and, List.set_cons_succ, List.set_cons_zero]
          refine ifF (by simp) ?_
          exact hnx1 _ _ ⟨rfl, hn⟩
        · refine ifT (by rw [e]; rfl) ?_
          rw [eb, er]
          simp only [s_onT, s_onE, w_bind, w_pure, w_need, w_calm, g_0, g_s, fIsN_at, fNotN_at, fEq_int, fIx_t0, fIx_t1, fInt_at, fInt0_at, dName, List.length_cons, List.length_nil, Nat.reduceAdd, Nat.zero_add, true_and, List.set_cons_succ, List.set_cons_zero]
          have w7 : ∀ {i : Int}, i.natAbs ≤ 100 → i.natAbs < 2 ^ 7 := fun h => Nat.lt_of_le_of_lt h (by decide)
          have jj : (j * j).natAbs < 2 ^ 14 := by
            rw [Int.natAbs_mul]
            exact Nat.lt_of_le_of_lt (Nat.mul_le_mul q2 q2) (by decide)
          refine ⟨wide_mul (w7 q1) (w7 q1) (by decide) (by decide) (by decide), wide_mul (w7 q2) (w7 q2) (by decide) (by decide) (by decide), wide_mul jj (w7 q3) (by decide) (by decide) (by decide), fits_small (by simp), _, 1, rfl, ⟨small1000 q9, small1000 (by decide), by decide⟩, ?_⟩
          refine ifF (by rw [q10 (by rw [e]; simp)]; simp) ?_
          refine hnx1 _ _ ⟨?_, hn⟩
          rw [eb, er]
      · refine ifF (by simpa using (by omega : ¬ ((l : Int) = 1))) ?_
        simp only [s_onT, s_onE, w_bind, w_pure, w_need, w_calm, g_0, g_s, fIsN_at, fNotN_at, fEq_int, dName, List.length_cons, List.length_nil, Nat.reduceAdd, Nat.zero_add, true_and, List.set_cons_succ, List.set_cons_zero]
        refine ifF (by simp) ?_
        exact hnx1 _ _ ⟨rfl, hn⟩
    intro ρ n hi
    obtain ⟨rfl, hn⟩ := hi
    refine seq_split (fun ρ' n' => ∃ ts : List D, (∀ t ∈ ts, RowOk l r t) ∧ ts.length = 3 ∧ ρ' = [some (.d (.scr K ns tabs)), some (.d .pen), some (.d d), some (.d (rD l r)), some (.d (.int l)), some (.d (dT l a)), some (.d (dT l b)), some (.d (dT l whole)), some (.d (dT l (zT l))), some (.d (.tup [dT l g.1, dT l g.2])), some (.d (dT l near)), some (.d (optT l (rootIn l r near))), some (.d (.lst ts)), x13, x14, x15, x16, x17, x18, none, none, none, none] ∧ n' + 1000 * k ≤ 9300) ?R14 (fun nx hnx1 => ?S14)
    case S14 =>
      rw [s_asg]
      simp only [s_onT, s_onE, w_bind, w_pure, w_need, w_calm, g_0, g_s, fIsN_at, fNotN_at, fEq_int, dName, List.length_cons, List.length_nil, Nat.reduceAdd, Nat.zero_add, true_and, List.set_cons_succ, List.set_cons_zero]
      refine ⟨fits_small (by simp), fits_small (by simp), root_T' hl hr hg (g31 bb) (root_T' hl hr hg (g31 bb) ⟨fits_small (by simp), fits_small (by simp), hnx1 _ _ ⟨_, ?_, rfl, rfl, hn⟩⟩)⟩
      intro t ht
      simp only [List.mem_cons, List.not_mem_nil, or_false] at ht
      rcases ht with rfl | rfl | rfl
      · exact ⟨whole, bw31, by rw [eg]; rfl⟩
      · exact ⟨near, bn31, by rw [nonB_opt]⟩
      · exact ⟨b, g31 bb, by rw [nonB_opt]⟩
    intro ρ n hi
    obtain ⟨ts, hts, htl, rfl, hn⟩ := hi
    rw [s_for]
    simp only [s_onT, s_onE, w_bind, w_pure, w_need, w_calm, g_0, g_s, fIsN_at, fNotN_at, fEq_int, dName, List.length_cons, List.length_nil, Nat.reduceAdd, Nat.zero_add, true_and, List.set_cons_succ, List.set_cons_zero]
    refine forD_inv (fun q ρ n => ∃ x13 x14 x15 x16 x17 x18 : Option SV, ρ = [some (.d (.scr K ns tabs)), some (.d .pen), some (.d d), some (.d (rD l r)), some (.d (.int l)), some (.d (dT l a)), some (.d (dT l b)), some (.d (dT l whole)), some (.d (dT l (zT l))), some (.d (.tup [dT l g.1, dT l g.2])), some (.d (dT l near)), some (.d (optT l (rootIn l r near))), some (.d (.lst ts)), x13, x14, x15, x16, x17, x18, none, none, none, none] ∧ n + 100 * q + 1000 * k ≤ 9700) _ _ _ ⟨_, _, _, _, _, _, rfl, by rw [htl]; omega⟩ (fun ρ n hi => ?_) fun q t ρ n E2 ht hi hnx2 hbk2 hrt2 hex2 => ?_
    · obtain ⟨x13, x14, x15, x16, x17, x18, rfl, hn⟩ := hi
      exact hnx _ _ ⟨_, _, _, _, _, _, _, _, _, _, _, _, _, _, _, _, _, rfl, by omega⟩
    obtain ⟨x13, x14, x15, x16, x17, x18, rfl, hn⟩ := hi
    obtain ⟨y, by31, rfl⟩ := hts t ht
    simp only [dgTup, dgCons, dgNil, dName, List.length_cons, List.length_nil, Nat.zero_add, Nat.reduceAdd, if_true, Option.bind_some, List.set_cons_zero, List.set_cons_succ]
    refine seq_split (fun ρ' n' => ∃ (vs : List D) (_ : ∀ v ∈ vs, Cls l v) (_ : vs.length ≤ 20) (_ : n' + 100 * q + 1000 * k ≤ 9620), ρ' = [some (.d (.scr K ns tabs)), some (.d .pen), some (.d d), some (.d (rD l r)), some (.d (.int l)), some (.d (dT l a)), some (.d (dT l b)), some (.d (dT l whole)), some (.d (dT l (zT l))), some (.d (.tup [dT l g.1, dT l g.2])), some (.d (dT l near)), some (.d (optT l (rootIn l r near))), some (.d (.lst ts)), some (.d (dT l y)), some (.d (optT l (rootIn l r y))), some (.d (.bl (rootIn l r y).isNone)), some (.d (.lst vs)), x17, x18, none, none, none, none]) ?R15 (fun nx hnx1 => ?S15)
    case S15 =>
      rw [s_asg]
      simp only [w_bind, w_pure, w_need, w_calm, g_0, g_s, dName, List.set_cons_succ, List.set_cons_zero]
      have F : ∀ {n : Nat}, Nat.ble n 100000 = true → Fits n := fun h => fits_small (Nat.le_of_ble_eq_true h)
      refine ⟨F rfl, rfl, l, 2, rfl, ⟨by omega, hl3, by decide, by decide, by omega⟩, fun e he => ?_⟩
      refine ⟨F rfl, F rfl, F rfl, F rfl, F rfl, ?_⟩
      have be := mx_bd2 (mx_mono he (by decide))
      have g94 : ∀ {w : T l}, Bd l 2 w → Bd l 94000 w := fun h => h.mono (by decide)
      refine hnx1 _ _ ⟨_, ?_, Nat.le_of_ble_eq_true rfl, by omega, rfl⟩
      intro v hv
      simp only [List.mem_cons, List.not_mem_nil, or_false] at hv
      rcases hv with rfl | rfl | rfl | rfl | rfl | rfl | rfl | rfl | rfl | rfl | rfl
      · exact cls_non
      · exact cls_int
      · exact cls_opt hl hr by31
      · exact cls_T hl
      · exact cls_pair hl (g94 ba) Bd.zero
      · exact cls_pair hl (g94 ba) (g94 be)
      · exact cls_one hl
      · exact cls_lst hl
      · exact cls_a1 hl (g31 ba)
      · exact cls_str
      · exact cls_t1
    intro ρ n hi
    obtain ⟨vs, hvs, hvl, hn, rfl⟩ := hi
    refine seq_split (fun ρ' n' => ∃ (vs : List D) (x17 : Option SV) (_ : ∀ v ∈ vs, Cls l v) (_ : vs.length ≤ 40) (_ : n' + 100 * q + 1000 * k ≤ 9650), ρ' = [some (.d (.scr K ns tabs)), some (.d .pen), some (.d d), some (.d (rD l r)), some (.d (.int l)), some (.d (dT l a)), some (.d (dT l b)), some (.d (dT l whole)), some (.d (dT l (zT l))), some (.d (.tup [dT l g.1, dT l g.2])), some (.d (dT l near)), some (.d (optT l (rootIn l r near))), some (.d (.lst ts)), some (.d (dT l y)), some (.d (optT l (rootIn l r y))), some (.d (.bl (rootIn l r y).isNone)), some (.d (.lst vs)), x17, x18, none, none, none, none]) ?R16 (fun nx hnx1 => ?S16)
    case S16 =>
      simp only [s_onT, s_onE, w_bind, w_pure, w_need, w_calm, g_0, g_s, fNotN_at, dName, List.set_cons_succ, List.set_cons_zero]
      have F : ∀ {n : Nat}, Nat.ble n 100000 = true → Fits n := fun h => fits_small (Nat.le_of_ble_eq_true h)
      rcases opt_cases (rootIn l r y) with e | ⟨g2, e⟩
      · refine ifF (by rw [nonB_opt, e]; simp) ?_
        exact hnx1 _ _ ⟨vs, _, hvs, by omega, by omega, rfl⟩
      · refine ifT (by rw [nonB_opt, e]; rfl) ?_
        have eo : optT l (rootIn l r y) = .tup [dT l g2.1, dT l g2.2] := by rw [e]; rfl
        obtain ⟨c1, c2⟩ := told_bd hl hr (by31.mono (cap31 hl)) e
        rw [eo]
        refine ⟨l, 2, rfl, ⟨by omega, hl3, by decide, by decide, by omega⟩, fun c hcx => ?_⟩
        have bc := mx_bd2 (mx_mono hcx (by decide))
        simp only [fIx_t0, fIx_t1, fList_tup, fAdd_lst]
        refine prod_T hl3 hr hg (p := 94000) (by omega) (c1.mono (by decide)) (bc.mono (by decide)) ?_
        refine prod_T hl3 hr hg (p := 94000) (by omega) (c2.mono (by decide)) (bc.mono (by decide)) ?_
        refine ⟨F rfl, F rfl, F rfl, F rfl, fits_small (by show vs.length + 4 ≤ 100000; omega), ?_⟩
        refine hnx1 _ _ ⟨vs ++ [.tup [dT l (mulT l r g2.1 c), dT l (mulT l r g2.2 c)], .tup [dT l g2.2, dT l g2.1], .lst [dT l g2.1, dT l g2.2], .tup [dT l g2.1, dT l (zT l)]], some (.d (dT l c)), ?_, ?_, by omega, by rw [eo]⟩
        · intro v hv
          rcases List.mem_append.mp hv with hv | hv
          · exact hvs v hv
          simp only [List.mem_cons, List.not_mem_nil, or_false] at hv
          rcases hv with rfl | rfl | rfl | rfl
          · exact cls_pair hl ((Bd.mul hr c1 bc).mono (by omega)) ((Bd.mul hr c2 bc).mono (by omega))
          · exact cls_pair hl (c2.mono (by decide)) (c1.mono (by decide))
          · exact cls_lst hl
          · exact cls_pair hl (c1.mono (by decide)) Bd.zero
        · rw [List.length_append]
          show vs.length + 4 ≤ 40
          omega
    intro ρ n hi
    obtain ⟨vs, x17, hvs, hvl, hn, rfl⟩ := hi
    simp only [s_onT, s_onE, w_bind, w_pure, w_need, w_calm, g_0, g_s, s_lc, items_lst, dName, List.set_cons_succ, List.set_cons_zero]
    refine lcD_const (y0 := .bl true) vs [] _ (by rw [sizeLine_eq]; simp; omega) (fun v hv => ⟨[some (.d (.scr K ns tabs)), some (.d .pen), some (.d d), some (.d (rD l r)), some (.d (.int l)), some (.d (dT l a)), some (.d (dT l b)), some (.d (dT l whole)), some (.d (dT l (zT l))), some (.d (.tup [dT l g.1, dT l g.2])), some (.d (dT l near)), some (.d (optT l (rootIn l r near))), some (.d (.lst ts)), some (.d (dT l y)), some (.d (optT l (rootIn l r y))), some (.d (.bl (rootIn l r y).isNone)), some (.d (.lst vs)), x17, some (.d v), none, none, none, none], rfl, fun K hK => ?_⟩) ?_
    · simp only [w_bind, w_pure, w_need, w_calm, g_0, g_s]
      obtain ⟨B, hB⟩ := cls_ans (hvs v hv) r y (rootIn l r y).isNone
      refine ⟨rfl, is_T hl hr hg by31 (hvs v hv) (hB _ _ ?_)⟩
      refine ⟨rfl, due_T hl hr hg by31 (hvs v hv) (hB _ _ ?_)⟩
      show _ ∧ K (.bl (decide (B = B))) _
      rw [decide_eq_true rfl]
      exact ⟨rfl, hK⟩
    · rw [List.nil_append, show List.replicate vs.length (D.bl true) = (List.replicate vs.length true).map D.bl from by rw [List.map_replicate], fAll_bools]
      have e : (List.replicate vs.length true).all id = true := by simp
      rw [e]
      simp only [w_pure]
      refine ifF (by simp) ?_
      exact hnx2 _ _ ⟨_, _, _, _, _, _, rfl, by omega⟩
theorem all_ok (F_is_whole : DefF K mg "is_whole" s_is_whole ["value"]) (F_in_tuples : DefF K mg "in_tuples" s_in_tuples ["value"]) (F_is_tuple_of : DefF K mg "is_tuple_of" s_is_tuple_of ["value", "many"]) (F_whole_root : DefF K mg "whole_root" s_whole_root ["number"]) (F_is_plain : DefF K mg "is_plain" s_is_plain ["level", "value"]) (F_flat_numbers : DefF K mg "flat_numbers" s_flat_numbers ["level", "number"]) (F_built : DefF K mg "built" s_built ["level", "row"]) (F_plain_integer : DefF K mg "plain_integer" s_plain_integer ["level", "number"]) (F_lift_plain : DefF K mg "lift_plain" s_lift_plain ["low", "high", "number"]) (F_sum_plain : DefF K mg "sum_plain" s_sum_plain ["level", "one", "other"]) (F_times_int : DefF K mg "times_int" s_times_int ["level", "one", "number"]) (F_less_plain : DefF K mg "less_plain" s_less_plain ["level", "one", "other"]) (F_product_plain : DefF K mg "product_plain" s_product_plain ["roots", "one", "other"]) (F_zero_plain : DefF K mg "zero_plain" s_zero_plain ["level", "number"]) (F_root_in : DefF K mg "root_in" s_root_in ["roots", "number"]) (F_flat_root : DefF K mg "flat_root" s_flat_root ["roots", "number"]) (F_mixed_root : DefF K mg "mixed_root" s_mixed_root ["roots", "number"]) (F_roots_from : DefF K mg "roots_from" s_roots_from ["roots"]) (F_plain_from : DefF K mg "plain_from" s_plain_from ["level", "number"]) (F_grid_product : DefF K mg "grid_product" s_grid_product ["roots", "one", "other"]) (F_grid_root : DefF K mg "grid_root" s_grid_root ["roots", "number"]) (F_is_grid_root : DefF K mg "is_grid_root" s_is_grid_root ["roots", "number", "value"]) (F__law_pen : DefF K mg "_law_pen" s__law_pen ["script"]) (F__law_draw : DefF K mg "_law_draw" s__law_draw ["pen", "many"]) (F__law_pick : DefF K mg "_law_pick" s__law_pick ["pen", "some"]) (F__law_is_int : DefF K mg "_law_is_int" s__law_is_int ["thing"]) (F__law_gcd : DefF K mg "_law_gcd" s__law_gcd ["one", "two"]) (F__law_q : DefF K mg "_law_q" s__law_q ["top", "bottom"]) (F__law_root : DefF K mg "_law_root" s__law_root ["ratio"]) (F__law_fault : DefF K mg "_law_fault" s__law_fault ["work"]) (F__law_are_due : DefF K mg "_law_are_due" s__law_are_due ["tries"]) (F__law_says : DefF K mg "_law_says" s__law_says ["told", "due"]) (F__law_lists : DefF K mg "_law_lists" s__law_lists ["thing"]) (F__law_either : DefF K mg "_law_either" s__law_either ["pen", "thing"]) (F__law_drawn : DefF K mg "_law_drawn" s__law_drawn ["pen", "level", "most"]) (F__law_zero_of : DefF K mg "_law_zero_of" s__law_zero_of ["level"]) (F__law_is_number : DefF K mg "_law_is_number" s__law_is_number ["level", "value"]) (F__law_due : DefF K mg "_law_due" s__law_due ["roots", "number", "value", "none"]) (m_bool : mg "bool" = none) (m_isinstance : mg "isinstance" = none) (m_int : mg "int" = none) (m_tuple : mg "tuple" = none) (m_list : mg "list" = none) (m_len : mg "len" = none) (m_range : mg "range" = none) (m_zip : mg "zip" = none) (m_all : mg "all" = none) (e_BadRow : ErrG P w K mg base "BadRow" C_BadRow fs_BadRow 1) (m_MOST_LEVEL : mg "MOST_LEVEL" = some (.int 3 TK_MOST_LEVEL)) (m_abs : mg "abs" = none) (mC_Unlike : mg "Unlike" = some (.ref C_Unlike)) (X_Unlike : XfC K C_Unlike) (no_Unlike : ∀ y, (y, true) ∈ it_Unlike → PySem.W.findIn K (.ref C_Unlike) y = some none) (mC_TooMany : mg "TooMany" = some (.ref C_TooMany)) (X_TooMany : XfC K C_TooMany) (no_TooMany : ∀ y, (y, true) ∈ it_TooMany → PySem.W.findIn K (.ref C_TooMany) y = some none) (mC_BadRow : mg "BadRow" = some (.ref C_BadRow)) (X_BadRow : XfC K C_BadRow) (no_BadRow : ∀ y, (y, true) ∈ it_BadRow → PySem.W.findIn K (.ref C_BadRow) y = some none) (mC_BadPoly : mg "BadPoly" = some (.ref C_BadPoly)) (X_BadPoly : XfC K C_BadPoly) (no_BadPoly : ∀ y, (y, true) ∈ it_BadPoly → PySem.W.findIn K (.ref C_BadPoly) y = some none) (mC_BadNumber : mg "BadNumber" = some (.ref C_BadNumber)) (X_BadNumber : XfC K C_BadNumber) (no_BadNumber : ∀ y, (y, true) ∈ it_BadNumber → PySem.W.findIn K (.ref C_BadNumber) y = some none) (xNN : PySem.W.exmOne K (.ref C_BadNumber) (.ref C_BadNumber) = some true) (xRN : PySem.W.exmOne K (.ref C_BadRow) (.ref C_BadNumber) = some false) (xRP : PySem.W.exmOne K (.ref C_BadRow) (.ref C_BadPoly) = some false) (xRR : PySem.W.exmOne K (.ref C_BadRow) (.ref C_BadRow) = some true) (m_repr : mg "repr" = none) {f c Pt : Addr} {fd : FuncData} (hcode : fd.code = .ref c) (TB : LamX.TabB base mg c Pt) (F_law : Fun K "law" "law" s_law f fd) : FnG P w K mg base 22 f fd ["script"] (spD 1 (w_law K Pt)) := by
  have h_is_whole := ok_is_whole (P := P) (w := w) (base := base) (F := F_is_whole) (m_bool := m_bool) (m_isinstance := m_isinstance) (m_int := m_int)
  have h_in_tuples := rec_in_tuples (P := P) (w := w) (base := base) (F := F_in_tuples) (m_tuple := m_tuple) (m_list := m_list) (m_isinstance := m_isinstance)
  have h_is_tuple_of := ok_is_tuple_of (P := P) (w := w) (base := base) (F := F_is_tuple_of) (m_len := m_len) (m_tuple := m_tuple) (m_isinstance := m_isinstance)
  have h_whole_root := ok_whole_root (P := P) (w := w) (base := base) (F := F_whole_root)
  have h_is_plain := ok_is_plain (P := P) (w := w) (base := base) (F := F_is_plain) (m_len := m_len) (h_is_whole := h_is_whole) (h_is_tuple_of := h_is_tuple_of)
  have h_flat_numbers := ok_flat_numbers (P := P) (w := w) (base := base) (F := F_flat_numbers) (m_range := m_range) (m_list := m_list)
  have h_built := ok_built (P := P) (w := w) (base := base) (F := F_built) (m_range := m_range) (m_len := m_len) (m_list := m_list)
  have h_plain_integer := ok_plain_integer (P := P) (w := w) (base := base) (F := F_plain_integer) (h_built := h_built)
  have h_lift_plain := ok_lift_plain (P := P) (w := w) (base := base) (F := F_lift_plain) (m_range := m_range) (h_plain_integer := h_plain_integer)
  have h_sum_plain := ok_sum_plain (P := P) (w := w) (base := base) (F := F_sum_plain) (h_built := h_built) (m_zip := m_zip) (h_flat_numbers := h_flat_numbers)
  have h_times_int := ok_times_int (P := P) (w := w) (base := base) (F := F_times_int) (h_built := h_built) (h_flat_numbers := h_flat_numbers)
  have h_less_plain := ok_less_plain (P := P) (w := w) (base := base) (F := F_less_plain) (h_sum_plain := h_sum_plain) (h_times_int := h_times_int)
  have h_product_plain := rec_product_plain (P := P) (w := w) (base := base) (F := F_product_plain) (h_sum_plain := h_sum_plain) (m_len := m_len)
  have h_zero_plain := ok_zero_plain (P := P) (w := w) (base := base) (F := F_zero_plain) (m_all := m_all) (h_flat_numbers := h_flat_numbers)
  have h_root_in := rec_root_in (P := P) (w := w) (base := base) F_root_in F_flat_root F_mixed_root h_zero_plain h_plain_integer h_whole_root h_lift_plain h_product_plain h_times_int h_sum_plain h_less_plain m_len
  have h_roots_from := ok_roots_from (P := P) (w := w) (base := base) (F := F_roots_from) (m_range := m_range) (m_len := m_len) (h_root_in := h_root_in) (h_is_plain := h_is_plain) (e_BadRow := e_BadRow) (m_MOST_LEVEL := m_MOST_LEVEL) (m_tuple := m_tuple) (m_isinstance := m_isinstance) (h_in_tuples := h_in_tuples)
  have h_plain_from := ok_plain_from (P := P) (w := w) (base := base) (F := F_plain_from) (h_is_plain := h_is_plain) (e_BadRow := e_BadRow) (h_in_tuples := h_in_tuples)
  have h_grid_product := ok_grid_product (P := P) (w := w) (base := base) (F := F_grid_product) (h_product_plain := h_product_plain) (h_plain_from := h_plain_from) (m_len := m_len) (h_roots_from := h_roots_from)
  have h_grid_root := ok_grid_root (P := P) (w := w) (base := base) (F := F_grid_root) (h_root_in := h_root_in) (h_plain_from := h_plain_from) (m_len := m_len) (h_roots_from := h_roots_from)
  have h_is_grid_root := ok_is_grid_root (P := P) (w := w) (base := base) (F := F_is_grid_root) (h_product_plain := h_product_plain) (h_zero_plain := h_zero_plain) (h_is_plain := h_is_plain) (h_is_tuple_of := h_is_tuple_of) (h_root_in := h_root_in) (m_len := m_len) (h_plain_from := h_plain_from) (h_roots_from := h_roots_from)
  have h__law_pen := ok__law_pen (P := P) (w := w) (base := base) (F := F__law_pen) (m_int := m_int) (m_list := m_list)
  have h__law_draw := ok__law_draw (P := P) (w := w) (base := base) (F := F__law_draw) (m_len := m_len) (m_int := m_int)
  have h__law_pick := ok__law_pick (P := P) (w := w) (base := base) (F := F__law_pick) (h__law_draw := h__law_draw) (m_len := m_len)
  have h__law_is_int := ok__law_is_int (P := P) (w := w) (base := base) (F := F__law_is_int) (m_bool := m_bool) (m_isinstance := m_isinstance) (m_int := m_int)
  have h__law_gcd := ok__law_gcd (P := P) (w := w) (base := base) (F := F__law_gcd) (m_range := m_range) (m_int := m_int) (m_abs := m_abs)
  have h__law_q := ok__law_q (P := P) (w := w) (base := base) (F := F__law_q) (h__law_gcd := h__law_gcd)
  have h__law_root := ok__law_root (P := P) (w := w) (base := base) (F := F__law_root)
  have h__law_fault := ok__law_fault (P := P) (w := w) (base := base) (F := F__law_fault) (mC_Unlike := mC_Unlike) (X_Unlike := X_Unlike) (no_Unlike := no_Unlike) (mC_TooMany := mC_TooMany) (X_TooMany := X_TooMany) (no_TooMany := no_TooMany) (mC_BadRow := mC_BadRow) (X_BadRow := X_BadRow) (no_BadRow := no_BadRow) (mC_BadPoly := mC_BadPoly) (X_BadPoly := X_BadPoly) (no_BadPoly := no_BadPoly) (mC_BadNumber := mC_BadNumber) (X_BadNumber := X_BadNumber) (no_BadNumber := no_BadNumber) (xNN := xNN) (xRN := xRN) (xRP := xRP) (xRR := xRR)
  have h__law_are_due := ok__law_are_due (P := P) (w := w) (base := base) (F := F__law_are_due) (m_all := m_all) (m_repr := m_repr) (h__law_fault := h__law_fault)
  have h__law_says := ok__law_says (P := P) (w := w) (base := base) (F := F__law_says) (m_bool := m_bool) (m_isinstance := m_isinstance)
  have h__law_lists := rec__law_lists (P := P) (w := w) (base := base) (F := F__law_lists) (m_tuple := m_tuple) (m_isinstance := m_isinstance)
  have h__law_either := ok__law_either (P := P) (w := w) (base := base) (F := F__law_either) (h__law_draw := h__law_draw) (h__law_lists := h__law_lists)
  have h__law_drawn := rec__law_drawn (P := P) (w := w) (base := base) (F := F__law_drawn) (h__law_draw := h__law_draw)
  have h__law_zero_of := rec__law_zero_of (P := P) (w := w) (base := base) (F := F__law_zero_of)
  have h__law_is_number := ok__law_is_number (P := P) (w := w) (base := base) (F := F__law_is_number) (m_range := m_range) (h__law_is_int := h__law_is_int) (m_len := m_len) (m_tuple := m_tuple) (m_isinstance := m_isinstance)
  have h__law_due := ok__law_due (P := P) (w := w) (base := base) (F := F__law_due) (h_grid_product := h_grid_product) (h__law_zero_of := h__law_zero_of) (h__law_is_number := h__law_is_number) (m_len := m_len) (m_tuple := m_tuple) (m_isinstance := m_isinstance)
  exact ok_law (hcode := hcode) (TB := TB) (F := F_law) (h_grid_root := h_grid_root) (h__law_are_due := h__law_are_due) (h__law_pick := h__law_pick) (m_range := m_range) (m_all := m_all) (h__law_says := h__law_says) (h__law_due := h__law_due) (h_is_grid_root := h_is_grid_root) (m_list := m_list) (h_grid_product := h_grid_product) (h__law_drawn := h__law_drawn) (h__law_root := h__law_root) (h__law_q := h__law_q) (h__law_either := h__law_either) (h__law_zero_of := h__law_zero_of) (m_len := m_len) (h__law_pen := h__law_pen)
abbrev si_BadRow : Stmt := clsDef 0 (topS 4)
theorem sci_BadRow : FnScope ["self", "row"] ["self", "row"] (defScope si_BadRow) := ⟨rfl, rfl, rfl, by decide +kernel, rfl, by decide +kernel, by decide +kernel⟩
theorem end_mk {l : PySem.W.OpenLaw} {h : Heap} {fa Pt : Addr} (X : K.In h) (G : h.Ns mainGlobals mg) (hfa : mg "law" = some (.ref fa)) (hT : h.get? Pt = some (PySem.W.tabObj #[])) {f_is_whole : Addr} {oc_is_whole kV_is_whole dc_is_whole pm_is_whole cd_is_whole ct_is_whole : Value} {od_is_whole an_is_whole : Option Addr} {sl_is_whole : Array (Option Value)} (a_is_whole : PySem.W.nsIn K mainGlobals "is_whole" = some (some (.ref f_is_whole))) (l_is_whole : K.lookup f_is_whole = some ⟨oc_is_whole, od_is_whole, .func (PySem.W.fnOf "is_whole" "is_whole" (defArgs s_is_whole) (defBody s_is_whole) (defScope s_is_whole) .none kV_is_whole dc_is_whole pm_is_whole an_is_whole cd_is_whole ct_is_whole), sl_is_whole⟩) (c_is_whole : PySem.W.codeIn K cd_is_whole "is_whole" = true) (k_is_whole : PySem.W.keepIn K (.ref f_is_whole) = true) {f_in_tuples : Addr} {oc_in_tuples kV_in_tuples dc_in_tuples pm_in_tuples cd_in_tuples ct_in_tuples : Value} {od_in_tuples an_in_tuples : Option Addr} {sl_in_tuples : Array (Option Value)} (a_in_tuples : PySem.W.nsIn K mainGlobals "in_tuples" = some (some (.ref f_in_tuples))) (l_in_tuples : K.lookup f_in_tuples = some ⟨oc_in_tuples, od_in_tuples, .func (PySem.W.fnOf "in_tuples" "in_tuples" (defArgs s_in_tuples) (defBody s_in_tuples) (defScope s_in_tuples) .none kV_in_tuples dc_in_tuples pm_in_tuples an_in_tuples cd_in_tuples ct_in_tuples), sl_in_tuples⟩) (c_in_tuples : PySem.W.codeIn K cd_in_tuples "in_tuples" = true) (k_in_tuples : PySem.W.keepIn K (.ref f_in_tuples) = true) {f_is_tuple_of : Addr} {oc_is_tuple_of kV_is_tuple_of dc_is_tuple_of pm_is_tuple_of cd_is_tuple_of ct_is_tuple_of : Value} {od_is_tuple_of an_is_tuple_of : Option Addr} {sl_is_tuple_of : Array (Option Value)} (a_is_tuple_of : PySem.W.nsIn K mainGlobals "is_tuple_of" = some (some (.ref f_is_tuple_of))) (l_is_tuple_of : K.lookup f_is_tuple_of = some ⟨oc_is_tuple_of, od_is_tuple_of, .func (PySem.W.fnOf "is_tuple_of" "is_tuple_of" (defArgs s_is_tuple_of) (defBody s_is_tuple_of) (defScope s_is_tuple_of) .none kV_is_tuple_of dc_is_tuple_of pm_is_tuple_of an_is_tuple_of cd_is_tuple_of ct_is_tuple_of), sl_is_tuple_of⟩) (c_is_tuple_of : PySem.W.codeIn K cd_is_tuple_of "is_tuple_of" = true) (k_is_tuple_of : PySem.W.keepIn K (.ref f_is_tuple_of) = true) {f_whole_root : Addr} {oc_whole_root kV_whole_root dc_whole_root pm_whole_root cd_whole_root ct_whole_root : Value} {od_whole_root an_whole_root : Option Addr} {sl_whole_root : Array (Option Value)} (a_whole_root : PySem.W.nsIn K mainGlobals "whole_root" = some (some (.ref f_whole_root))) (l_whole_root : K.lookup f_whole_root = some ⟨oc_whole_root, od_whole_root, .func (PySem.W.fnOf "whole_root" "whole_root" (defArgs s_whole_root) (defBody s_whole_root) (defScope s_whole_root) .none kV_whole_root dc_whole_root pm_whole_root an_whole_root cd_whole_root ct_whole_root), sl_whole_root⟩) (c_whole_root : PySem.W.codeIn K cd_whole_root "whole_root" = true) (k_whole_root : PySem.W.keepIn K (.ref f_whole_root) = true) {f_is_plain : Addr} {oc_is_plain kV_is_plain dc_is_plain pm_is_plain cd_is_plain ct_is_plain : Value} {od_is_plain an_is_plain : Option Addr} {sl_is_plain : Array (Option Value)} (a_is_plain : PySem.W.nsIn K mainGlobals "is_plain" = some (some (.ref f_is_plain))) (l_is_plain : K.lookup f_is_plain = some ⟨oc_is_plain, od_is_plain, .func (PySem.W.fnOf "is_plain" "is_plain" (defArgs s_is_plain) (defBody s_is_plain) (defScope s_is_plain) .none kV_is_plain dc_is_plain pm_is_plain an_is_plain cd_is_plain ct_is_plain), sl_is_plain⟩) (c_is_plain : PySem.W.codeIn K cd_is_plain "is_plain" = true) (k_is_plain : PySem.W.keepIn K (.ref f_is_plain) = true) {f_flat_numbers : Addr} {oc_flat_numbers kV_flat_numbers dc_flat_numbers pm_flat_numbers cd_flat_numbers ct_flat_numbers : Value} {od_flat_numbers an_flat_numbers : Option Addr} {sl_flat_numbers : Array (Option Value)} (a_flat_numbers : PySem.W.nsIn K mainGlobals "flat_numbers" = some (some (.ref f_flat_numbers))) (l_flat_numbers : K.lookup f_flat_numbers = some ⟨oc_flat_numbers, od_flat_numbers, .func (PySem.W.fnOf "flat_numbers" "flat_numbers" (defArgs s_flat_numbers) (defBody s_flat_numbers) (defScope s_flat_numbers) .none kV_flat_numbers dc_flat_numbers pm_flat_numbers an_flat_numbers cd_flat_numbers ct_flat_numbers), sl_flat_numbers⟩) (c_flat_numbers : PySem.W.codeIn K cd_flat_numbers "flat_numbers" = true) (k_flat_numbers : PySem.W.keepIn K (.ref f_flat_numbers) = true) {f_built : Addr} {oc_built kV_built dc_built pm_built cd_built ct_built : Value} {od_built an_built : Option Addr} {sl_built : Array (Option Value)} (a_built : PySem.W.nsIn K mainGlobals "built" = some (some (.ref f_built))) (l_built : K.lookup f_built = some ⟨oc_built, od_built, .func (PySem.W.fnOf "built" "built" (defArgs s_built) (defBody s_built) (defScope s_built) .none kV_built dc_built pm_built an_built cd_built ct_built), sl_built⟩) (c_built : PySem.W.codeIn K cd_built "built" = true) (k_built : PySem.W.keepIn K (.ref f_built) = true) {f_plain_integer : Addr} {oc_plain_integer kV_plain_integer dc_plain_integer pm_plain_integer cd_plain_integer ct_plain_integer : Value} {od_plain_integer an_plain_integer : Option Addr} {sl_plain_integer : Array (Option Value)} (a_plain_integer : PySem.W.nsIn K mainGlobals "plain_integer" = some (some (.ref f_plain_integer))) (l_plain_integer : K.lookup f_plain_integer = some ⟨oc_plain_integer, od_plain_integer, .func (PySem.W.fnOf "plain_integer" "plain_integer" (defArgs s_plain_integer) (defBody s_plain_integer) (defScope s_plain_integer) .none kV_plain_integer dc_plain_integer pm_plain_integer an_plain_integer cd_plain_integer ct_plain_integer), sl_plain_integer⟩) (c_plain_integer : PySem.W.codeIn K cd_plain_integer "plain_integer" = true) (k_plain_integer : PySem.W.keepIn K (.ref f_plain_integer) = true) {f_lift_plain : Addr} {oc_lift_plain kV_lift_plain dc_lift_plain pm_lift_plain cd_lift_plain ct_lift_plain : Value} {od_lift_plain an_lift_plain : Option Addr} {sl_lift_plain : Array (Option Value)} (a_lift_plain : PySem.W.nsIn K mainGlobals "lift_plain" = some (some (.ref f_lift_plain))) (l_lift_plain : K.lookup f_lift_plain = some ⟨oc_lift_plain, od_lift_plain, .func (PySem.W.fnOf "lift_plain" "lift_plain" (defArgs s_lift_plain) (defBody s_lift_plain) (defScope s_lift_plain) .none kV_lift_plain dc_lift_plain pm_lift_plain an_lift_plain cd_lift_plain ct_lift_plain), sl_lift_plain⟩) (c_lift_plain : PySem.W.codeIn K cd_lift_plain "lift_plain" = true) (k_lift_plain : PySem.W.keepIn K (.ref f_lift_plain) = true) {f_sum_plain : Addr} {oc_sum_plain kV_sum_plain dc_sum_plain pm_sum_plain cd_sum_plain ct_sum_plain : Value} {od_sum_plain an_sum_plain : Option Addr} {sl_sum_plain : Array (Option Value)} (a_sum_plain : PySem.W.nsIn K mainGlobals "sum_plain" = some (some (.ref f_sum_plain))) (l_sum_plain : K.lookup f_sum_plain = some ⟨oc_sum_plain, od_sum_plain, .func (PySem.W.fnOf "sum_plain" "sum_plain" (defArgs s_sum_plain) (defBody s_sum_plain) (defScope s_sum_plain) .none kV_sum_plain dc_sum_plain pm_sum_plain an_sum_plain cd_sum_plain ct_sum_plain), sl_sum_plain⟩) (c_sum_plain : PySem.W.codeIn K cd_sum_plain "sum_plain" = true) (k_sum_plain : PySem.W.keepIn K (.ref f_sum_plain) = true) {f_times_int : Addr} {oc_times_int kV_times_int dc_times_int pm_times_int cd_times_int ct_times_int : Value} {od_times_int an_times_int : Option Addr} {sl_times_int : Array (Option Value)} (a_times_int : PySem.W.nsIn K mainGlobals "times_int" = some (some (.ref f_times_int))) (l_times_int : K.lookup f_times_int = some ⟨oc_times_int, od_times_int, .func (PySem.W.fnOf "times_int" "times_int" (defArgs s_times_int) (defBody s_times_int) (defScope s_times_int) .none kV_times_int dc_times_int pm_times_int an_times_int cd_times_int ct_times_int), sl_times_int⟩) (c_times_int : PySem.W.codeIn K cd_times_int "times_int" = true) (k_times_int : PySem.W.keepIn K (.ref f_times_int) = true) {f_less_plain : Addr} {oc_less_plain kV_less_plain dc_less_plain pm_less_plain cd_less_plain ct_less_plain : Value} {od_less_plain an_less_plain : Option Addr} {sl_less_plain : Array (Option Value)} (a_less_plain : PySem.W.nsIn K mainGlobals "less_plain" = some (some (.ref f_less_plain))) (l_less_plain : K.lookup f_less_plain = some ⟨oc_less_plain, od_less_plain, .func (PySem.W.fnOf "less_plain" "less_plain" (defArgs s_less_plain) (defBody s_less_plain) (defScope s_less_plain) .none kV_less_plain dc_less_plain pm_less_plain an_less_plain cd_less_plain ct_less_plain), sl_less_plain⟩) (c_less_plain : PySem.W.codeIn K cd_less_plain "less_plain" = true) (k_less_plain : PySem.W.keepIn K (.ref f_less_plain) = true) {f_product_plain : Addr} {oc_product_plain kV_product_plain dc_product_plain pm_product_plain cd_product_plain ct_product_plain : Value} {od_product_plain an_product_plain : Option Addr} {sl_product_plain : Array (Option Value)} (a_product_plain : PySem.W.nsIn K mainGlobals "product_plain" = some (some (.ref f_product_plain))) (l_product_plain : K.lookup f_product_plain = some ⟨oc_product_plain, od_product_plain, .func (PySem.W.fnOf "product_plain" "product_plain" (defArgs s_product_plain) (defBody s_product_plain) (defScope s_product_plain) .none kV_product_plain dc_product_plain pm_product_plain an_product_plain cd_product_plain ct_product_plain), sl_product_plain⟩) (c_product_plain : PySem.W.codeIn K cd_product_plain "product_plain" = true) (k_product_plain : PySem.W.keepIn K (.ref f_product_plain) = true) {f_zero_plain : Addr} {oc_zero_plain kV_zero_plain dc_zero_plain pm_zero_plain cd_zero_plain ct_zero_plain : Value} {od_zero_plain an_zero_plain : Option Addr} {sl_zero_plain : Array (Option Value)} (a_zero_plain : PySem.W.nsIn K mainGlobals "zero_plain" = some (some (.ref f_zero_plain))) (l_zero_plain : K.lookup f_zero_plain = some ⟨oc_zero_plain, od_zero_plain, .func (PySem.W.fnOf "zero_plain" "zero_plain" (defArgs s_zero_plain) (defBody s_zero_plain) (defScope s_zero_plain) .none kV_zero_plain dc_zero_plain pm_zero_plain an_zero_plain cd_zero_plain ct_zero_plain), sl_zero_plain⟩) (c_zero_plain : PySem.W.codeIn K cd_zero_plain "zero_plain" = true) (k_zero_plain : PySem.W.keepIn K (.ref f_zero_plain) = true) {f_root_in : Addr} {oc_root_in kV_root_in dc_root_in pm_root_in cd_root_in ct_root_in : Value} {od_root_in an_root_in : Option Addr} {sl_root_in : Array (Option Value)} (a_root_in : PySem.W.nsIn K mainGlobals "root_in" = some (some (.ref f_root_in))) (l_root_in : K.lookup f_root_in = some ⟨oc_root_in, od_root_in, .func (PySem.W.fnOf "root_in" "root_in" (defArgs s_root_in) (defBody s_root_in) (defScope s_root_in) .none kV_root_in dc_root_in pm_root_in an_root_in cd_root_in ct_root_in), sl_root_in⟩) (c_root_in : PySem.W.codeIn K cd_root_in "root_in" = true) (k_root_in : PySem.W.keepIn K (.ref f_root_in) = true) {f_flat_root : Addr} {oc_flat_root kV_flat_root dc_flat_root pm_flat_root cd_flat_root ct_flat_root : Value} {od_flat_root an_flat_root : Option Addr} {sl_flat_root : Array (Option Value)} (a_flat_root : PySem.W.nsIn K mainGlobals "flat_root" = some (some (.ref f_flat_root))) (l_flat_root : K.lookup f_flat_root = some ⟨oc_flat_root, od_flat_root, .func (PySem.W.fnOf "flat_root" "flat_root" (defArgs s_flat_root) (defBody s_flat_root) (defScope s_flat_root) .none kV_flat_root dc_flat_root pm_flat_root an_flat_root cd_flat_root ct_flat_root), sl_flat_root⟩) (c_flat_root : PySem.W.codeIn K cd_flat_root "flat_root" = true) (k_flat_root : PySem.W.keepIn K (.ref f_flat_root) = true) {f_mixed_root : Addr} {oc_mixed_root kV_mixed_root dc_mixed_root pm_mixed_root cd_mixed_root ct_mixed_root : Value} {od_mixed_root an_mixed_root : Option Addr} {sl_mixed_root : Array (Option Value)} (a_mixed_root : PySem.W.nsIn K mainGlobals "mixed_root" = some (some (.ref f_mixed_root))) (l_mixed_root : K.lookup f_mixed_root = some ⟨oc_mixed_root, od_mixed_root, .func (PySem.W.fnOf "mixed_root" "mixed_root" (defArgs s_mixed_root) (defBody s_mixed_root) (defScope s_mixed_root) .none kV_mixed_root dc_mixed_root pm_mixed_root an_mixed_root cd_mixed_root ct_mixed_root), sl_mixed_root⟩) (c_mixed_root : PySem.W.codeIn K cd_mixed_root "mixed_root" = true) (k_mixed_root : PySem.W.keepIn K (.ref f_mixed_root) = true) {f_roots_from : Addr} {oc_roots_from kV_roots_from dc_roots_from pm_roots_from cd_roots_from ct_roots_from : Value} {od_roots_from an_roots_from : Option Addr} {sl_roots_from : Array (Option Value)} (a_roots_from : PySem.W.nsIn K mainGlobals "roots_from" = some (some (.ref f_roots_from))) (l_roots_from : K.lookup f_roots_from = some ⟨oc_roots_from, od_roots_from, .func (PySem.W.fnOf "roots_from" "roots_from" (defArgs s_roots_from) (defBody s_roots_from) (defScope s_roots_from) .none kV_roots_from dc_roots_from pm_roots_from an_roots_from cd_roots_from ct_roots_from), sl_roots_from⟩) (c_roots_from : PySem.W.codeIn K cd_roots_from "roots_from" = true) (k_roots_from : PySem.W.keepIn K (.ref f_roots_from) = true) {f_plain_from : Addr} {oc_plain_from kV_plain_from dc_plain_from pm_plain_from cd_plain_from ct_plain_from : Value} {od_plain_from an_plain_from : Option Addr} {sl_plain_from : Array (Option Value)} (a_plain_from : PySem.W.nsIn K mainGlobals "plain_from" = some (some (.ref f_plain_from))) (l_plain_from : K.lookup f_plain_from = some ⟨oc_plain_from, od_plain_from, .func (PySem.W.fnOf "plain_from" "plain_from" (defArgs s_plain_from) (defBody s_plain_from) (defScope s_plain_from) .none kV_plain_from dc_plain_from pm_plain_from an_plain_from cd_plain_from ct_plain_from), sl_plain_from⟩) (c_plain_from : PySem.W.codeIn K cd_plain_from "plain_from" = true) (k_plain_from : PySem.W.keepIn K (.ref f_plain_from) = true) {f_grid_product : Addr} {oc_grid_product kV_grid_product dc_grid_product pm_grid_product cd_grid_product ct_grid_product : Value} {od_grid_product an_grid_product : Option Addr} {sl_grid_product : Array (Option Value)} (a_grid_product : PySem.W.nsIn K mainGlobals "grid_product" = some (some (.ref f_grid_product))) (l_grid_product : K.lookup f_grid_product = some ⟨oc_grid_product, od_grid_product, .func (PySem.W.fnOf "grid_product" "grid_product" (defArgs s_grid_product) (defBody s_grid_product) (defScope s_grid_product) .none kV_grid_product dc_grid_product pm_grid_product an_grid_product cd_grid_product ct_grid_product), sl_grid_product⟩) (c_grid_product : PySem.W.codeIn K cd_grid_product "grid_product" = true) (k_grid_product : PySem.W.keepIn K (.ref f_grid_product) = true) {f_grid_root : Addr} {oc_grid_root kV_grid_root dc_grid_root pm_grid_root cd_grid_root ct_grid_root : Value} {od_grid_root an_grid_root : Option Addr} {sl_grid_root : Array (Option Value)} (a_grid_root : PySem.W.nsIn K mainGlobals "grid_root" = some (some (.ref f_grid_root))) (l_grid_root : K.lookup f_grid_root = some ⟨oc_grid_root, od_grid_root, .func (PySem.W.fnOf "grid_root" "grid_root" (defArgs s_grid_root) (defBody s_grid_root) (defScope s_grid_root) .none kV_grid_root dc_grid_root pm_grid_root an_grid_root cd_grid_root ct_grid_root), sl_grid_root⟩) (c_grid_root : PySem.W.codeIn K cd_grid_root "grid_root" = true) (k_grid_root : PySem.W.keepIn K (.ref f_grid_root) = true) {f_is_grid_root : Addr} {oc_is_grid_root kV_is_grid_root dc_is_grid_root pm_is_grid_root cd_is_grid_root ct_is_grid_root : Value} {od_is_grid_root an_is_grid_root : Option Addr} {sl_is_grid_root : Array (Option Value)} (a_is_grid_root : PySem.W.nsIn K mainGlobals "is_grid_root" = some (some (.ref f_is_grid_root))) (l_is_grid_root : K.lookup f_is_grid_root = some ⟨oc_is_grid_root, od_is_grid_root, .func (PySem.W.fnOf "is_grid_root" "is_grid_root" (defArgs s_is_grid_root) (defBody s_is_grid_root) (defScope s_is_grid_root) .none kV_is_grid_root dc_is_grid_root pm_is_grid_root an_is_grid_root cd_is_grid_root ct_is_grid_root), sl_is_grid_root⟩) (c_is_grid_root : PySem.W.codeIn K cd_is_grid_root "is_grid_root" = true) (k_is_grid_root : PySem.W.keepIn K (.ref f_is_grid_root) = true) {f__law_pen : Addr} {oc__law_pen kV__law_pen dc__law_pen pm__law_pen cd__law_pen ct__law_pen : Value} {od__law_pen an__law_pen : Option Addr} {sl__law_pen : Array (Option Value)} (a__law_pen : PySem.W.nsIn K mainGlobals "_law_pen" = some (some (.ref f__law_pen))) (l__law_pen : K.lookup f__law_pen = some ⟨oc__law_pen, od__law_pen, .func (PySem.W.fnOf "_law_pen" "_law_pen" (defArgs s__law_pen) (defBody s__law_pen) (defScope s__law_pen) .none kV__law_pen dc__law_pen pm__law_pen an__law_pen cd__law_pen ct__law_pen), sl__law_pen⟩) (c__law_pen : PySem.W.codeIn K cd__law_pen "_law_pen" = true) (k__law_pen : PySem.W.keepIn K (.ref f__law_pen) = true) {f__law_draw : Addr} {oc__law_draw kV__law_draw dc__law_draw pm__law_draw cd__law_draw ct__law_draw : Value} {od__law_draw an__law_draw : Option Addr} {sl__law_draw : Array (Option Value)} (a__law_draw : PySem.W.nsIn K mainGlobals "_law_draw" = some (some (.ref f__law_draw))) (l__law_draw : K.lookup f__law_draw = some ⟨oc__law_draw, od__law_draw, .func (PySem.W.fnOf "_law_draw" "_law_draw" (defArgs s__law_draw) (defBody s__law_draw) (defScope s__law_draw) .none kV__law_draw dc__law_draw pm__law_draw an__law_draw cd__law_draw ct__law_draw), sl__law_draw⟩) (c__law_draw : PySem.W.codeIn K cd__law_draw "_law_draw" = true) (k__law_draw : PySem.W.keepIn K (.ref f__law_draw) = true) {f__law_pick : Addr} {oc__law_pick kV__law_pick dc__law_pick pm__law_pick cd__law_pick ct__law_pick : Value} {od__law_pick an__law_pick : Option Addr} {sl__law_pick : Array (Option Value)} (a__law_pick : PySem.W.nsIn K mainGlobals "_law_pick" = some (some (.ref f__law_pick))) (l__law_pick : K.lookup f__law_pick = some ⟨oc__law_pick, od__law_pick, .func (PySem.W.fnOf "_law_pick" "_law_pick" (defArgs s__law_pick) (defBody s__law_pick) (defScope s__law_pick) .none kV__law_pick dc__law_pick pm__law_pick an__law_pick cd__law_pick ct__law_pick), sl__law_pick⟩) (c__law_pick : PySem.W.codeIn K cd__law_pick "_law_pick" = true) (k__law_pick : PySem.W.keepIn K (.ref f__law_pick) = true) {f__law_is_int : Addr} {oc__law_is_int kV__law_is_int dc__law_is_int pm__law_is_int cd__law_is_int ct__law_is_int : Value} {od__law_is_int an__law_is_int : Option Addr} {sl__law_is_int : Array (Option Value)} (a__law_is_int : PySem.W.nsIn K mainGlobals "_law_is_int" = some (some (.ref f__law_is_int))) (l__law_is_int : K.lookup f__law_is_int = some ⟨oc__law_is_int, od__law_is_int, .func (PySem.W.fnOf "_law_is_int" "_law_is_int" (defArgs s__law_is_int) (defBody s__law_is_int) (defScope s__law_is_int) .none kV__law_is_int dc__law_is_int pm__law_is_int an__law_is_int cd__law_is_int ct__law_is_int), sl__law_is_int⟩) (c__law_is_int : PySem.W.codeIn K cd__law_is_int "_law_is_int" = true) (k__law_is_int : PySem.W.keepIn K (.ref f__law_is_int) = true) {f__law_gcd : Addr} {oc__law_gcd kV__law_gcd dc__law_gcd pm__law_gcd cd__law_gcd ct__law_gcd : Value} {od__law_gcd an__law_gcd : Option Addr} {sl__law_gcd : Array (Option Value)} (a__law_gcd : PySem.W.nsIn K mainGlobals "_law_gcd" = some (some (.ref f__law_gcd))) (l__law_gcd : K.lookup f__law_gcd = some ⟨oc__law_gcd, od__law_gcd, .func (PySem.W.fnOf "_law_gcd" "_law_gcd" (defArgs s__law_gcd) (defBody s__law_gcd) (defScope s__law_gcd) .none kV__law_gcd dc__law_gcd pm__law_gcd an__law_gcd cd__law_gcd ct__law_gcd), sl__law_gcd⟩) (c__law_gcd : PySem.W.codeIn K cd__law_gcd "_law_gcd" = true) (k__law_gcd : PySem.W.keepIn K (.ref f__law_gcd) = true) {f__law_q : Addr} {oc__law_q kV__law_q dc__law_q pm__law_q cd__law_q ct__law_q : Value} {od__law_q an__law_q : Option Addr} {sl__law_q : Array (Option Value)} (a__law_q : PySem.W.nsIn K mainGlobals "_law_q" = some (some (.ref f__law_q))) (l__law_q : K.lookup f__law_q = some ⟨oc__law_q, od__law_q, .func (PySem.W.fnOf "_law_q" "_law_q" (defArgs s__law_q) (defBody s__law_q) (defScope s__law_q) .none kV__law_q dc__law_q pm__law_q an__law_q cd__law_q ct__law_q), sl__law_q⟩) (c__law_q : PySem.W.codeIn K cd__law_q "_law_q" = true) (k__law_q : PySem.W.keepIn K (.ref f__law_q) = true) {f__law_root : Addr} {oc__law_root kV__law_root dc__law_root pm__law_root cd__law_root ct__law_root : Value} {od__law_root an__law_root : Option Addr} {sl__law_root : Array (Option Value)} (a__law_root : PySem.W.nsIn K mainGlobals "_law_root" = some (some (.ref f__law_root))) (l__law_root : K.lookup f__law_root = some ⟨oc__law_root, od__law_root, .func (PySem.W.fnOf "_law_root" "_law_root" (defArgs s__law_root) (defBody s__law_root) (defScope s__law_root) .none kV__law_root dc__law_root pm__law_root an__law_root cd__law_root ct__law_root), sl__law_root⟩) (c__law_root : PySem.W.codeIn K cd__law_root "_law_root" = true) (k__law_root : PySem.W.keepIn K (.ref f__law_root) = true) {f__law_fault : Addr} {oc__law_fault kV__law_fault dc__law_fault pm__law_fault cd__law_fault ct__law_fault : Value} {od__law_fault an__law_fault : Option Addr} {sl__law_fault : Array (Option Value)} (a__law_fault : PySem.W.nsIn K mainGlobals "_law_fault" = some (some (.ref f__law_fault))) (l__law_fault : K.lookup f__law_fault = some ⟨oc__law_fault, od__law_fault, .func (PySem.W.fnOf "_law_fault" "_law_fault" (defArgs s__law_fault) (defBody s__law_fault) (defScope s__law_fault) .none kV__law_fault dc__law_fault pm__law_fault an__law_fault cd__law_fault ct__law_fault), sl__law_fault⟩) (c__law_fault : PySem.W.codeIn K cd__law_fault "_law_fault" = true) (k__law_fault : PySem.W.keepIn K (.ref f__law_fault) = true) {f__law_are_due : Addr} {oc__law_are_due kV__law_are_due dc__law_are_due pm__law_are_due cd__law_are_due ct__law_are_due : Value} {od__law_are_due an__law_are_due : Option Addr} {sl__law_are_due : Array (Option Value)} (a__law_are_due : PySem.W.nsIn K mainGlobals "_law_are_due" = some (some (.ref f__law_are_due))) (l__law_are_due : K.lookup f__law_are_due = some ⟨oc__law_are_due, od__law_are_due, .func (PySem.W.fnOf "_law_are_due" "_law_are_due" (defArgs s__law_are_due) (defBody s__law_are_due) (defScope s__law_are_due) .none kV__law_are_due dc__law_are_due pm__law_are_due an__law_are_due cd__law_are_due ct__law_are_due), sl__law_are_due⟩) (c__law_are_due : PySem.W.codeIn K cd__law_are_due "_law_are_due" = true) (k__law_are_due : PySem.W.keepIn K (.ref f__law_are_due) = true) {f__law_says : Addr} {oc__law_says kV__law_says dc__law_says pm__law_says cd__law_says ct__law_says : Value} {od__law_says an__law_says : Option Addr} {sl__law_says : Array (Option Value)} (a__law_says : PySem.W.nsIn K mainGlobals "_law_says" = some (some (.ref f__law_says))) (l__law_says : K.lookup f__law_says = some ⟨oc__law_says, od__law_says, .func (PySem.W.fnOf "_law_says" "_law_says" (defArgs s__law_says) (defBody s__law_says) (defScope s__law_says) .none kV__law_says dc__law_says pm__law_says an__law_says cd__law_says ct__law_says), sl__law_says⟩) (c__law_says : PySem.W.codeIn K cd__law_says "_law_says" = true) (k__law_says : PySem.W.keepIn K (.ref f__law_says) = true) {f__law_lists : Addr} {oc__law_lists kV__law_lists dc__law_lists pm__law_lists cd__law_lists ct__law_lists : Value} {od__law_lists an__law_lists : Option Addr} {sl__law_lists : Array (Option Value)} (a__law_lists : PySem.W.nsIn K mainGlobals "_law_lists" = some (some (.ref f__law_lists))) (l__law_lists : K.lookup f__law_lists = some ⟨oc__law_lists, od__law_lists, .func (PySem.W.fnOf "_law_lists" "_law_lists" (defArgs s__law_lists) (defBody s__law_lists) (defScope s__law_lists) .none kV__law_lists dc__law_lists pm__law_lists an__law_lists cd__law_lists ct__law_lists), sl__law_lists⟩) (c__law_lists : PySem.W.codeIn K cd__law_lists "_law_lists" = true) (k__law_lists : PySem.W.keepIn K (.ref f__law_lists) = true) {f__law_either : Addr} {oc__law_either kV__law_either dc__law_either pm__law_either cd__law_either ct__law_either : Value} {od__law_either an__law_either : Option Addr} {sl__law_either : Array (Option Value)} (a__law_either : PySem.W.nsIn K mainGlobals "_law_either" = some (some (.ref f__law_either))) (l__law_either : K.lookup f__law_either = some ⟨oc__law_either, od__law_either, .func (PySem.W.fnOf "_law_either" "_law_either" (defArgs s__law_either) (defBody s__law_either) (defScope s__law_either) .none kV__law_either dc__law_either pm__law_either an__law_either cd__law_either ct__law_either), sl__law_either⟩) (c__law_either : PySem.W.codeIn K cd__law_either "_law_either" = true) (k__law_either : PySem.W.keepIn K (.ref f__law_either) = true) {f__law_drawn : Addr} {oc__law_drawn kV__law_drawn dc__law_drawn pm__law_drawn cd__law_drawn ct__law_drawn : Value} {od__law_drawn an__law_drawn : Option Addr} {sl__law_drawn : Array (Option Value)} (a__law_drawn : PySem.W.nsIn K mainGlobals "_law_drawn" = some (some (.ref f__law_drawn))) (l__law_drawn : K.lookup f__law_drawn = some ⟨oc__law_drawn, od__law_drawn, .func (PySem.W.fnOf "_law_drawn" "_law_drawn" (defArgs s__law_drawn) (defBody s__law_drawn) (defScope s__law_drawn) .none kV__law_drawn dc__law_drawn pm__law_drawn an__law_drawn cd__law_drawn ct__law_drawn), sl__law_drawn⟩) (c__law_drawn : PySem.W.codeIn K cd__law_drawn "_law_drawn" = true) (k__law_drawn : PySem.W.keepIn K (.ref f__law_drawn) = true) {f__law_zero_of : Addr} {oc__law_zero_of kV__law_zero_of dc__law_zero_of pm__law_zero_of cd__law_zero_of ct__law_zero_of : Value} {od__law_zero_of an__law_zero_of : Option Addr} {sl__law_zero_of : Array (Option Value)} (a__law_zero_of : PySem.W.nsIn K mainGlobals "_law_zero_of" = some (some (.ref f__law_zero_of))) (l__law_zero_of : K.lookup f__law_zero_of = some ⟨oc__law_zero_of, od__law_zero_of, .func (PySem.W.fnOf "_law_zero_of" "_law_zero_of" (defArgs s__law_zero_of) (defBody s__law_zero_of) (defScope s__law_zero_of) .none kV__law_zero_of dc__law_zero_of pm__law_zero_of an__law_zero_of cd__law_zero_of ct__law_zero_of), sl__law_zero_of⟩) (c__law_zero_of : PySem.W.codeIn K cd__law_zero_of "_law_zero_of" = true) (k__law_zero_of : PySem.W.keepIn K (.ref f__law_zero_of) = true) {f__law_is_number : Addr} {oc__law_is_number kV__law_is_number dc__law_is_number pm__law_is_number cd__law_is_number ct__law_is_number : Value} {od__law_is_number an__law_is_number : Option Addr} {sl__law_is_number : Array (Option Value)} (a__law_is_number : PySem.W.nsIn K mainGlobals "_law_is_number" = some (some (.ref f__law_is_number))) (l__law_is_number : K.lookup f__law_is_number = some ⟨oc__law_is_number, od__law_is_number, .func (PySem.W.fnOf "_law_is_number" "_law_is_number" (defArgs s__law_is_number) (defBody s__law_is_number) (defScope s__law_is_number) .none kV__law_is_number dc__law_is_number pm__law_is_number an__law_is_number cd__law_is_number ct__law_is_number), sl__law_is_number⟩) (c__law_is_number : PySem.W.codeIn K cd__law_is_number "_law_is_number" = true) (k__law_is_number : PySem.W.keepIn K (.ref f__law_is_number) = true) {f__law_due : Addr} {oc__law_due kV__law_due dc__law_due pm__law_due cd__law_due ct__law_due : Value} {od__law_due an__law_due : Option Addr} {sl__law_due : Array (Option Value)} (a__law_due : PySem.W.nsIn K mainGlobals "_law_due" = some (some (.ref f__law_due))) (l__law_due : K.lookup f__law_due = some ⟨oc__law_due, od__law_due, .func (PySem.W.fnOf "_law_due" "_law_due" (defArgs s__law_due) (defBody s__law_due) (defScope s__law_due) .none kV__law_due dc__law_due pm__law_due an__law_due cd__law_due ct__law_due), sl__law_due⟩) (c__law_due : PySem.W.codeIn K cd__law_due "_law_due" = true) (k__law_due : PySem.W.keepIn K (.ref f__law_due) = true) {C_Unlike : Addr} (aC_Unlike : PySem.W.nsIn K mainGlobals "Unlike" = some (some (.ref C_Unlike))) {C_TooMany : Addr} (aC_TooMany : PySem.W.nsIn K mainGlobals "TooMany" = some (some (.ref C_TooMany))) {C_BadRow : Addr} (aC_BadRow : PySem.W.nsIn K mainGlobals "BadRow" = some (some (.ref C_BadRow))) {C_BadPoly : Addr} (aC_BadPoly : PySem.W.nsIn K mainGlobals "BadPoly" = some (some (.ref C_BadPoly))) {C_BadNumber : Addr} (aC_BadNumber : PySem.W.nsIn K mainGlobals "BadNumber" = some (some (.ref C_BadNumber))) (xf_Unlike : xfB K C_Unlike = true) (no1_Unlike : it_Unlike.all (fun p => !p.2 || decide (PySem.W.findIn K (.ref C_Unlike) p.1 = some none)) = true) (xf_TooMany : xfB K C_TooMany = true) (no1_TooMany : it_TooMany.all (fun p => !p.2 || decide (PySem.W.findIn K (.ref C_TooMany) p.1 = some none)) = true) (xf_BadRow : xfB K C_BadRow = true) (no1_BadRow : it_BadRow.all (fun p => !p.2 || decide (PySem.W.findIn K (.ref C_BadRow) p.1 = some none)) = true) (xf_BadPoly : xfB K C_BadPoly = true) (no1_BadPoly : it_BadPoly.all (fun p => !p.2 || decide (PySem.W.findIn K (.ref C_BadPoly) p.1 = some none)) = true) (xf_BadNumber : xfB K C_BadNumber = true) (no1_BadNumber : it_BadNumber.all (fun p => !p.2 || decide (PySem.W.findIn K (.ref C_BadNumber) p.1 = some none)) = true) {C_DrawError : Addr} (aD : PySem.W.nsIn K mainGlobals "DrawError" = some (some (.ref C_DrawError))) (bd1 : PySem.W.specialIn K (.ref C_DrawError) "__getattribute__" = some (some (.builtin "type.__getattribute__"))) (bd2 : PySem.W.typeIn K (.ref C_DrawError) = some (.type "type")) (bd3 : PySem.W.readsIn K C_DrawError (.type "type") = true) (bd4 : PySem.W.findCls K (.ref C_DrawError) (.type "type") "__init__" = some (.val (.builtin "ValueError.__init__"))) {f_BadRow : Addr} {oc_BadRow kV_BadRow dc_BadRow pm_BadRow cd_BadRow ct_BadRow : Value} {od_BadRow an_BadRow : Option Addr} {sl_BadRow : Array (Option Value)} {nm_BadRow q_BadRow : Str} {N_BadRow : Addr} {bs_BadRow bm_BadRow sub_BadRow : List Value} {sn_BadRow : List Str} {ab_BadRow : Bool} {col_BadRow : Option Bool} {dd_BadRow : Option Addr} {m0_BadRow m1_BadRow m2_BadRow m3_BadRow m5_BadRow : Option Value} (xL_BadRow : K.lookup C_BadRow = some (excClassObj nm_BadRow q_BadRow C_BadRow N_BadRow bs_BadRow bm_BadRow true sn_BadRow sub_BadRow ab_BadRow col_BadRow dd_BadRow m0_BadRow m1_BadRow m2_BadRow m3_BadRow m5_BadRow "ValueError.__new__")) (rv_BadRow : PySem.HandSPX.refsVE bm_BadRow = true) (sa_BadRow : PySem.W.findIn K (.ref C_BadRow) "__setattr__" = some (some (.builtin "object.__setattr__"))) (eC_BadRow : PySem.W.subIn K (.ref C_BadRow) (.type "BaseException") = some true) (tC_BadRow : PySem.W.typeIn K (.ref C_BadRow) = some (.type "type")) (kC_BadRow : PySem.W.keepIn K (.ref C_BadRow) = true) (iC_BadRow : PySem.W.findIn K (.ref C_BadRow) "__init__" = some (some (.ref f_BadRow))) (tI_BadRow : PySem.W.typeIn K (.ref f_BadRow) = some (.type "function")) (l_BadRow : K.lookup f_BadRow = some ⟨oc_BadRow, od_BadRow, .func (PySem.W.fnOf "__init__" "BadRow.__init__" (defArgs si_BadRow) (defBody si_BadRow) (defScope si_BadRow) .none kV_BadRow dc_BadRow pm_BadRow an_BadRow cd_BadRow ct_BadRow), sl_BadRow⟩) (c_BadRow : PySem.W.codeIn K cd_BadRow "BadRow.__init__" = true) (k_BadRow : PySem.W.keepIn K (.ref f_BadRow) = true) (nof_BadRow : fs_BadRow.all (fun y => decide (PySem.W.findIn K (.ref C_BadRow) y = some none)) = true) (zm_bool : PySem.W.nsIn K mainGlobals "bool" = some none) (zm_isinstance : PySem.W.nsIn K mainGlobals "isinstance" = some none) (zm_int : PySem.W.nsIn K mainGlobals "int" = some none) (zm_tuple : PySem.W.nsIn K mainGlobals "tuple" = some none) (zm_list : PySem.W.nsIn K mainGlobals "list" = some none) (zm_len : PySem.W.nsIn K mainGlobals "len" = some none) (zm_range : PySem.W.nsIn K mainGlobals "range" = some none) (zm_zip : PySem.W.nsIn K mainGlobals "zip" = some none) (zm_all : PySem.W.nsIn K mainGlobals "all" = some none) {TK_MOST_LEVEL : Tok} (zm_MOST_LEVEL : PySem.W.nsIn K mainGlobals "MOST_LEVEL" = some (some (.int 3 TK_MOST_LEVEL))) (zm_abs : PySem.W.nsIn K mainGlobals "abs" = some none) (xNN : PySem.W.exmOne K (.ref C_BadNumber) (.ref C_BadNumber) = some true) (xRN : PySem.W.exmOne K (.ref C_BadRow) (.ref C_BadNumber) = some false) (xRP : PySem.W.exmOne K (.ref C_BadRow) (.ref C_BadPoly) = some false) (xRR : PySem.W.exmOne K (.ref C_BadRow) (.ref C_BadRow) = some true) (zm_repr : PySem.W.nsIn K mainGlobals "repr" = some none) {c_law0 : Addr} {f_law : Addr} {oc_law kV_law dc_law pm_law ct_law : Value} {od_law an_law : Option Addr} {sl_law : Array (Option Value)} (a_law : PySem.W.nsIn K mainGlobals "law" = some (some (.ref f_law))) (l_law : K.lookup f_law = some ⟨oc_law, od_law, .func (PySem.W.fnOf "law" "law" (defArgs s_law) (defBody s_law) (defScope s_law) .none kV_law dc_law pm_law an_law (.ref c_law0) ct_law), sl_law⟩) (ci_law : PySem.W.codeIn K (.ref c_law0) "law" = true) (k_law : PySem.W.keepIn K (.ref f_law) = true) (nT : K.lookup Pt = none) (ch : PySem.W.codeHdIn K c_law0 Pt = true) : LawAtG l w K 22 63 "script" mg fa h := by
  have efa := hfa.symm.trans (PySem.W.mg_of X G a_law)
  cases efa
  have F_is_whole : DefF K mg "is_whole" s_is_whole ["value"] := defF_mk X G a_is_whole l_is_whole c_is_whole k_is_whole (fun _ F => F.binds fun _ _ _ _ _ _ us hl => match us, hl with | [_], _ => rfl)
  have F_in_tuples : DefF K mg "in_tuples" s_in_tuples ["value"] := defF_mk X G a_in_tuples l_in_tuples c_in_tuples k_in_tuples (fun _ F => F.binds fun _ _ _ _ _ _ us hl => match us, hl with | [_], _ => rfl)
  have F_is_tuple_of : DefF K mg "is_tuple_of" s_is_tuple_of ["value", "many"] := defF_mk X G a_is_tuple_of l_is_tuple_of c_is_tuple_of k_is_tuple_of (fun _ F => F.binds fun _ _ _ _ _ _ us hl => match us, hl with | [_, _], _ => rfl)
  have F_whole_root : DefF K mg "whole_root" s_whole_root ["number"] := defF_mk X G a_whole_root l_whole_root c_whole_root k_whole_root (fun _ F => F.binds fun _ _ _ _ _ _ us hl => match us, hl with | [_], _ => rfl)
  have F_is_plain : DefF K mg "is_plain" s_is_plain ["level", "value"] := defF_mk X G a_is_plain l_is_plain c_is_plain k_is_plain (fun _ F => F.binds fun _ _ _ _ _ _ us hl => match us, hl with | [_, _], _ => rfl)
  have F_flat_numbers : DefF K mg "flat_numbers" s_flat_numbers ["level", "number"] := defF_mk X G a_flat_numbers l_flat_numbers c_flat_numbers k_flat_numbers (fun _ F => F.binds fun _ _ _ _ _ _ us hl => match us, hl with | [_, _], _ => rfl)
  have F_built : DefF K mg "built" s_built ["level", "row"] := defF_mk X G a_built l_built c_built k_built (fun _ F => F.binds fun _ _ _ _ _ _ us hl => match us, hl with | [_, _], _ => rfl)
  have F_plain_integer : DefF K mg "plain_integer" s_plain_integer ["level", "number"] := defF_mk X G a_plain_integer l_plain_integer c_plain_integer k_plain_integer (fun _ F => F.binds fun _ _ _ _ _ _ us hl => match us, hl with | [_, _], _ => rfl)
  have F_lift_plain : DefF K mg "lift_plain" s_lift_plain ["low", "high", "number"] := defF_mk X G a_lift_plain l_lift_plain c_lift_plain k_lift_plain (fun _ F => F.binds fun _ _ _ _ _ _ us hl => match us, hl with | [_, _, _], _ => rfl)
  have F_sum_plain : DefF K mg "sum_plain" s_sum_plain ["level", "one", "other"] := defF_mk X G a_sum_plain l_sum_plain c_sum_plain k_sum_plain (fun _ F => F.binds fun _ _ _ _ _ _ us hl => match us, hl with | [_, _, _], _ => rfl)
  have F_times_int : DefF K mg "times_int" s_times_int ["level", "one", "number"] := defF_mk X G a_times_int l_times_int c_times_int k_times_int (fun _ F => F.binds fun _ _ _ _ _ _ us hl => match us, hl with | [_, _, _], _ => rfl)
  have F_less_plain : DefF K mg "less_plain" s_less_plain ["level", "one", "other"] := defF_mk X G a_less_plain l_less_plain c_less_plain k_less_plain (fun _ F => F.binds fun _ _ _ _ _ _ us hl => match us, hl with | [_, _, _], _ => rfl)
  have F_product_plain : DefF K mg "product_plain" s_product_plain ["roots", "one", "other"] := defF_mk X G a_product_plain l_product_plain c_product_plain k_product_plain (fun _ F => F.binds fun _ _ _ _ _ _ us hl => match us, hl with | [_, _, _], _ => rfl)
  have F_zero_plain : DefF K mg "zero_plain" s_zero_plain ["level", "number"] := defF_mk X G a_zero_plain l_zero_plain c_zero_plain k_zero_plain (fun _ F => F.binds fun _ _ _ _ _ _ us hl => match us, hl with | [_, _], _ => rfl)
  have F_root_in : DefF K mg "root_in" s_root_in ["roots", "number"] := defF_mk X G a_root_in l_root_in c_root_in k_root_in (fun _ F => F.binds fun _ _ _ _ _ _ us hl => match us, hl with | [_, _], _ => rfl)
  have F_flat_root : DefF K mg "flat_root" s_flat_root ["roots", "number"] := defF_mk X G a_flat_root l_flat_root c_flat_root k_flat_root (fun _ F => F.binds fun _ _ _ _ _ _ us hl => match us, hl with | [_, _], _ => rfl)
  have F_mixed_root : DefF K mg "mixed_root" s_mixed_root ["roots", "number"] := defF_mk X G a_mixed_root l_mixed_root c_mixed_root k_mixed_root (fun _ F => F.binds fun _ _ _ _ _ _ us hl => match us, hl with | [_, _], _ => rfl)
  have F_roots_from : DefF K mg "roots_from" s_roots_from ["roots"] := defF_mk X G a_roots_from l_roots_from c_roots_from k_roots_from (fun _ F => F.binds fun _ _ _ _ _ _ us hl => match us, hl with | [_], _ => rfl)
  have F_plain_from : DefF K mg "plain_from" s_plain_from ["level", "number"] := defF_mk X G a_plain_from l_plain_from c_plain_from k_plain_from (fun _ F => F.binds fun _ _ _ _ _ _ us hl => match us, hl with | [_, _], _ => rfl)
  have F_grid_product : DefF K mg "grid_product" s_grid_product ["roots", "one", "other"] := defF_mk X G a_grid_product l_grid_product c_grid_product k_grid_product (fun _ F => F.binds fun _ _ _ _ _ _ us hl => match us, hl with | [_, _, _], _ => rfl)
  have F_grid_root : DefF K mg "grid_root" s_grid_root ["roots", "number"] := defF_mk X G a_grid_root l_grid_root c_grid_root k_grid_root (fun _ F => F.binds fun _ _ _ _ _ _ us hl => match us, hl with | [_, _], _ => rfl)
  have F_is_grid_root : DefF K mg "is_grid_root" s_is_grid_root ["roots", "number", "value"] := defF_mk X G a_is_grid_root l_is_grid_root c_is_grid_root k_is_grid_root (fun _ F => F.binds fun _ _ _ _ _ _ us hl => match us, hl with | [_, _, _], _ => rfl)
  have F__law_pen : DefF K mg "_law_pen" s__law_pen ["script"] := defF_mk X G a__law_pen l__law_pen c__law_pen k__law_pen (fun _ F => F.binds fun _ _ _ _ _ _ us hl => match us, hl with | [_], _ => rfl)
  have F__law_draw : DefF K mg "_law_draw" s__law_draw ["pen", "many"] := defF_mk X G a__law_draw l__law_draw c__law_draw k__law_draw (fun _ F => F.binds fun _ _ _ _ _ _ us hl => match us, hl with | [_, _], _ => rfl)
  have F__law_pick : DefF K mg "_law_pick" s__law_pick ["pen", "some"] := defF_mk X G a__law_pick l__law_pick c__law_pick k__law_pick (fun _ F => F.binds fun _ _ _ _ _ _ us hl => match us, hl with | [_, _], _ => rfl)
  have F__law_is_int : DefF K mg "_law_is_int" s__law_is_int ["thing"] := defF_mk X G a__law_is_int l__law_is_int c__law_is_int k__law_is_int (fun _ F => F.binds fun _ _ _ _ _ _ us hl => match us, hl with | [_], _ => rfl)
  have F__law_gcd : DefF K mg "_law_gcd" s__law_gcd ["one", "two"] := defF_mk X G a__law_gcd l__law_gcd c__law_gcd k__law_gcd (fun _ F => F.binds fun _ _ _ _ _ _ us hl => match us, hl with | [_, _], _ => rfl)
  have F__law_q : DefF K mg "_law_q" s__law_q ["top", "bottom"] := defF_mk X G a__law_q l__law_q c__law_q k__law_q (fun _ F => F.binds fun _ _ _ _ _ _ us hl => match us, hl with | [_, _], _ => rfl)
  have F__law_root : DefF K mg "_law_root" s__law_root ["ratio"] := defF_mk X G a__law_root l__law_root c__law_root k__law_root (fun _ F => F.binds fun _ _ _ _ _ _ us hl => match us, hl with | [_], _ => rfl)
  have F__law_fault : DefF K mg "_law_fault" s__law_fault ["work"] := defF_mk X G a__law_fault l__law_fault c__law_fault k__law_fault (fun _ F => F.binds fun _ _ _ _ _ _ us hl => match us, hl with | [_], _ => rfl)
  have F__law_are_due : DefF K mg "_law_are_due" s__law_are_due ["tries"] := defF_mk X G a__law_are_due l__law_are_due c__law_are_due k__law_are_due (fun _ F => F.binds fun _ _ _ _ _ _ us hl => match us, hl with | [_], _ => rfl)
  have F__law_says : DefF K mg "_law_says" s__law_says ["told", "due"] := defF_mk X G a__law_says l__law_says c__law_says k__law_says (fun _ F => F.binds fun _ _ _ _ _ _ us hl => match us, hl with | [_, _], _ => rfl)
  have F__law_lists : DefF K mg "_law_lists" s__law_lists ["thing"] := defF_mk X G a__law_lists l__law_lists c__law_lists k__law_lists (fun _ F => F.binds fun _ _ _ _ _ _ us hl => match us, hl with | [_], _ => rfl)
  have F__law_either : DefF K mg "_law_either" s__law_either ["pen", "thing"] := defF_mk X G a__law_either l__law_either c__law_either k__law_either (fun _ F => F.binds fun _ _ _ _ _ _ us hl => match us, hl with | [_, _], _ => rfl)
  have F__law_drawn : DefF K mg "_law_drawn" s__law_drawn ["pen", "level", "most"] := defF_mk X G a__law_drawn l__law_drawn c__law_drawn k__law_drawn (fun _ F => F.binds fun _ _ _ _ _ _ us hl => match us, hl with | [_, _, _], _ => rfl)
  have F__law_zero_of : DefF K mg "_law_zero_of" s__law_zero_of ["level"] := defF_mk X G a__law_zero_of l__law_zero_of c__law_zero_of k__law_zero_of (fun _ F => F.binds fun _ _ _ _ _ _ us hl => match us, hl with | [_], _ => rfl)
  have F__law_is_number : DefF K mg "_law_is_number" s__law_is_number ["level", "value"] := defF_mk X G a__law_is_number l__law_is_number c__law_is_number k__law_is_number (fun _ F => F.binds fun _ _ _ _ _ _ us hl => match us, hl with | [_, _], _ => rfl)
  have F__law_due : DefF K mg "_law_due" s__law_due ["roots", "number", "value", "none"] := defF_mk X G a__law_due l__law_due c__law_due k__law_due (fun _ F => F.binds fun _ _ _ _ _ _ us hl => match us, hl with | [_, _, _, _], _ => rfl)
  have mC_Unlike := PySem.W.mg_of X G aC_Unlike
  have mC_TooMany := PySem.W.mg_of X G aC_TooMany
  have mC_BadRow := PySem.W.mg_of X G aC_BadRow
  have mC_BadPoly := PySem.W.mg_of X G aC_BadPoly
  have mC_BadNumber := PySem.W.mg_of X G aC_BadNumber
  obtain ⟨_, X_Unlike, no_Unlike⟩ := catchF_mk (it := it_Unlike) X G aC_Unlike xf_Unlike no1_Unlike
  obtain ⟨_, X_TooMany, no_TooMany⟩ := catchF_mk (it := it_TooMany) X G aC_TooMany xf_TooMany no1_TooMany
  obtain ⟨_, X_BadRow, no_BadRow⟩ := catchF_mk (it := it_BadRow) X G aC_BadRow xf_BadRow no1_BadRow
  obtain ⟨_, X_BadPoly, no_BadPoly⟩ := catchF_mk (it := it_BadPoly) X G aC_BadPoly xf_BadPoly no1_BadPoly
  obtain ⟨_, X_BadNumber, no_BadNumber⟩ := catchF_mk (it := it_BadNumber) X G aC_BadNumber xf_BadNumber no1_BadNumber
  have BD : BaseInit K C_DrawError := ⟨bd1, bd2, bd3, bd4⟩
  have mD := PySem.W.mg_of X G aD
  have e_BadRow : ∀ base, ErrG l.prog w K mg base "BadRow" C_BadRow fs_BadRow 1 := fun base => errG_mk (st := si_BadRow) (msg := "A value that is no such row.") (ps := ["self", "row"]) X G aC_BadRow (oexC_mk xL_BadRow rv_BadRow sa_BadRow eC_BadRow tC_BadRow kC_BadRow) iC_BadRow tI_BadRow l_BadRow c_BadRow k_BadRow nof_BadRow (fun _ F => F.binds fun _ _ _ _ _ _ us hl => match us, hl with | [_, _], _ => rfl) sci_BadRow (by simp) rfl (by decide) (fun cdv A outer s H E => (pss_cons (ps_expr (pe_binit (by rfl) mD BD (pa_cons (pv 0) (pa_cons pe_str pa_nil)))) (pss_one (ps_ost (pv 0) (pv 1)))))
  have m_bool := PySem.W.mg_none_of X G zm_bool
  have m_isinstance := PySem.W.mg_none_of X G zm_isinstance
  have m_int := PySem.W.mg_none_of X G zm_int
  have m_tuple := PySem.W.mg_none_of X G zm_tuple
  have m_list := PySem.W.mg_none_of X G zm_list
  have m_len := PySem.W.mg_none_of X G zm_len
  have m_range := PySem.W.mg_none_of X G zm_range
  have m_zip := PySem.W.mg_none_of X G zm_zip
  have m_all := PySem.W.mg_none_of X G zm_all
  have m_MOST_LEVEL := PySem.W.mg_of X G zm_MOST_LEVEL
  have m_abs := PySem.W.mg_none_of X G zm_abs
  have m_repr := PySem.W.mg_none_of X G zm_repr
  have FL := fun_mk (st := s_law) l_law ci_law k_law
  refine ⟨PySem.W.fnOf "law" "law" (defArgs s_law) (defBody s_law) (defScope s_law) .none kV_law dc_law pm_law an_law (.ref c_law0) ct_law, [(c_law0, Pt)], (w_law K Pt), ?_, ?_, ?_, fun s u => .of_eq rfl, ?_, fun base KB GB TB => all_ok (P := l.prog) (w := w) (base := base) (F_is_whole := F_is_whole) (F_in_tuples := F_in_tuples) (F_is_tuple_of := F_is_tuple_of) (F_whole_root := F_whole_root) (F_is_plain := F_is_plain) (F_flat_numbers := F_flat_numbers) (F_built := F_built) (F_plain_integer := F_plain_integer) (F_lift_plain := F_lift_plain) (F_sum_plain := F_sum_plain) (F_times_int := F_times_int) (F_less_plain := F_less_plain) (F_product_plain := F_product_plain) (F_zero_plain := F_zero_plain) (F_root_in := F_root_in) (F_flat_root := F_flat_root) (F_mixed_root := F_mixed_root) (F_roots_from := F_roots_from) (F_plain_from := F_plain_from) (F_grid_product := F_grid_product) (F_grid_root := F_grid_root) (F_is_grid_root := F_is_grid_root) (F__law_pen := F__law_pen) (F__law_draw := F__law_draw) (F__law_pick := F__law_pick) (F__law_is_int := F__law_is_int) (F__law_gcd := F__law_gcd) (F__law_q := F__law_q) (F__law_root := F__law_root) (F__law_fault := F__law_fault) (F__law_are_due := F__law_are_due) (F__law_says := F__law_says) (F__law_lists := F__law_lists) (F__law_either := F__law_either) (F__law_drawn := F__law_drawn) (F__law_zero_of := F__law_zero_of) (F__law_is_number := F__law_is_number) (F__law_due := F__law_due) (m_bool := m_bool) (m_isinstance := m_isinstance) (m_int := m_int) (m_tuple := m_tuple) (m_list := m_list) (m_len := m_len) (m_range := m_range) (m_zip := m_zip) (m_all := m_all) (e_BadRow := e_BadRow base) (m_MOST_LEVEL := m_MOST_LEVEL) (m_abs := m_abs) (mC_Unlike := mC_Unlike) (X_Unlike := X_Unlike) (no_Unlike := no_Unlike) (mC_TooMany := mC_TooMany) (X_TooMany := X_TooMany) (no_TooMany := no_TooMany) (mC_BadRow := mC_BadRow) (X_BadRow := X_BadRow) (no_BadRow := no_BadRow) (mC_BadPoly := mC_BadPoly) (X_BadPoly := X_BadPoly) (no_BadPoly := no_BadPoly) (mC_BadNumber := mC_BadNumber) (X_BadNumber := X_BadNumber) (no_BadNumber := no_BadNumber) (xNN := xNN) (xRN := xRN) (xRP := xRP) (xRR := xRR) (m_repr := m_repr) rfl (TB _ List.mem_cons_self) FL⟩
  · intro q hq; cases List.mem_singleton.mp hq; exact hT
  · intro q hq; cases List.mem_singleton.mp hq; exact nT
  · intro q hq; cases List.mem_singleton.mp hq; exact PySem.W.codeHd_of_K X ch
  · intro ns h1 h2
    exact ⟨ns, [Pt], rfl, h1, List.mem_cons_self, rfl, fun _ => rfl⟩
end

end L22


open PySem PySem.W PyProof.Rows in
set_option maxRecDepth 100000 in
set_option maxHeartbeats 0 in
theorem PySem.Challenge.cw_drawproofs_k22_whole_roots_with_roots_holds : PySem.Challenge.rw_drawproofs_k22_whole_roots_with_roots.Holds := by
  w_on; o_law; k_head; (case hw => w_witness2)
  k_fill
  refine DL.walk_ofG (l := PySem.Challenge.rw_drawproofs_k22_whole_roots_with_roots) (n := 63) (k := 22) (x := "script") rfl (by decide) rfl ⟨rfl, by decide, by decide⟩ (fun w h Y => PySem.W.km_in_of Y) ?F
  case F =>
    intro w mg fa h Y KX G hmg
    refine' L22.end_mk KX G hmg (PySem.W.km_tabs_of Y _ List.mem_cons_self) ?a_is_whole ?l_is_whole ?c_is_whole ?k_is_whole ?a_in_tuples ?l_in_tuples ?c_in_tuples ?k_in_tuples ?a_is_tuple_of ?l_is_tuple_of ?c_is_tuple_of ?k_is_tuple_of ?a_whole_root ?l_whole_root ?c_whole_root ?k_whole_root ?a_is_plain ?l_is_plain ?c_is_plain ?k_is_plain ?a_flat_numbers ?l_flat_numbers ?c_flat_numbers ?k_flat_numbers ?a_built ?l_built ?c_built ?k_built ?a_plain_integer ?l_plain_integer ?c_plain_integer ?k_plain_integer ?a_lift_plain ?l_lift_plain ?c_lift_plain ?k_lift_plain ?a_sum_plain ?l_sum_plain ?c_sum_plain ?k_sum_plain ?a_times_int ?l_times_int ?c_times_int ?k_times_int ?a_less_plain ?l_less_plain ?c_less_plain ?k_less_plain ?a_product_plain ?l_product_plain ?c_product_plain ?k_product_plain ?a_zero_plain ?l_zero_plain ?c_zero_plain ?k_zero_plain ?a_root_in ?l_root_in ?c_root_in ?k_root_in ?a_flat_root ?l_flat_root ?c_flat_root ?k_flat_root ?a_mixed_root ?l_mixed_root ?c_mixed_root ?k_mixed_root ?a_roots_from ?l_roots_from ?c_roots_from ?k_roots_from ?a_plain_from ?l_plain_from ?c_plain_from ?k_plain_from ?a_grid_product ?l_grid_product ?c_grid_product ?k_grid_product ?a_grid_root ?l_grid_root ?c_grid_root ?k_grid_root ?a_is_grid_root ?l_is_grid_root ?c_is_grid_root ?k_is_grid_root ?a__law_pen ?l__law_pen ?c__law_pen ?k__law_pen ?a__law_draw ?l__law_draw ?c__law_draw ?k__law_draw ?a__law_pick ?l__law_pick ?c__law_pick ?k__law_pick ?a__law_is_int ?l__law_is_int ?c__law_is_int ?k__law_is_int ?a__law_gcd ?l__law_gcd ?c__law_gcd ?k__law_gcd ?a__law_q ?l__law_q ?c__law_q ?k__law_q ?a__law_root ?l__law_root ?c__law_root ?k__law_root ?a__law_fault ?l__law_fault ?c__law_fault ?k__law_fault ?a__law_are_due ?l__law_are_due ?c__law_are_due ?k__law_are_due ?a__law_says ?l__law_says ?c__law_says ?k__law_says ?a__law_lists ?l__law_lists ?c__law_lists ?k__law_lists ?a__law_either ?l__law_either ?c__law_either ?k__law_either ?a__law_drawn ?l__law_drawn ?c__law_drawn ?k__law_drawn ?a__law_zero_of ?l__law_zero_of ?c__law_zero_of ?k__law_zero_of ?a__law_is_number ?l__law_is_number ?c__law_is_number ?k__law_is_number ?a__law_due ?l__law_due ?c__law_due ?k__law_due ?aC_Unlike ?aC_TooMany ?aC_BadRow ?aC_BadPoly ?aC_BadNumber ?xf_Unlike ?no1_Unlike ?xf_TooMany ?no1_TooMany ?xf_BadRow ?no1_BadRow ?xf_BadPoly ?no1_BadPoly ?xf_BadNumber ?no1_BadNumber ?aD ?bd1 ?bd2 ?bd3 ?bd4 ?xL_BadRow ?rv_BadRow ?sa_BadRow ?eC_BadRow ?tC_BadRow ?kC_BadRow ?iC_BadRow ?tI_BadRow ?l_BadRow ?c_BadRow ?k_BadRow ?nof_BadRow ?zm_bool ?zm_isinstance ?zm_int ?zm_tuple ?zm_list ?zm_len ?zm_range ?zm_zip ?zm_all ?zm_MOST_LEVEL ?zm_abs ?xNN ?xRN ?xRP ?xRR ?zm_repr ?a_law ?l_law ?ci_law ?k_law ?nT ?ch
    (case a_is_whole => k_is)
    (case l_is_whole => k_is)
    (case c_is_whole => k_is)
    (case k_is_whole => k_is)
    (case a_in_tuples => k_is)
    (case l_in_tuples => k_is)
    (case c_in_tuples => k_is)
    (case k_in_tuples => k_is)
    (case a_is_tuple_of => k_is)
    (case l_is_tuple_of => k_is)
    (case c_is_tuple_of => k_is)
    (case k_is_tuple_of => k_is)
    (case a_whole_root => k_is)
    (case l_whole_root => k_is)
    (case c_whole_root => k_is)
    (case k_whole_root => k_is)
    (case a_is_plain => k_is)
    (case l_is_plain => k_is)
    (case c_is_plain => k_is)
    (case k_is_plain => k_is)
    (case a_flat_numbers => k_is)
    (case l_flat_numbers => k_is)
    (case c_flat_numbers => k_is)
    (case k_flat_numbers => k_is)
    (case a_built => k_is)
    (case l_built => k_is)
    (case c_built => k_is)
    (case k_built => k_is)
    (case a_plain_integer => k_is)
    (case l_plain_integer => k_is)
    (case c_plain_integer => k_is)
    (case k_plain_integer => k_is)
    (case a_lift_plain => k_is)
    (case l_lift_plain => k_is)
    (case c_lift_plain => k_is)
    (case k_lift_plain => k_is)
    (case a_sum_plain => k_is)
    (case l_sum_plain => k_is)
    (case c_sum_plain => k_is)
    (case k_sum_plain => k_is)
    (case a_times_int => k_is)
    (case l_times_int => k_is)
    (case c_times_int => k_is)
    (case k_times_int => k_is)
    (case a_less_plain => k_is)
    (case l_less_plain => k_is)
    (case c_less_plain => k_is)
    (case k_less_plain => k_is)
    (case a_product_plain => k_is)
    (case l_product_plain => k_is)
    (case c_product_plain => k_is)
    (case k_product_plain => k_is)
    (case a_zero_plain => k_is)
    (case l_zero_plain => k_is)
    (case c_zero_plain => k_is)
    (case k_zero_plain => k_is)
    (case a_root_in => k_is)
    (case l_root_in => k_is)
    (case c_root_in => k_is)
    (case k_root_in => k_is)
    (case a_flat_root => k_is)
    (case l_flat_root => k_is)
    (case c_flat_root => k_is)
    (case k_flat_root => k_is)
    (case a_mixed_root => k_is)
    (case l_mixed_root => k_is)
    (case c_mixed_root => k_is)
    (case k_mixed_root => k_is)
    (case a_roots_from => k_is)
    (case l_roots_from => k_is)
    (case c_roots_from => k_is)
    (case k_roots_from => k_is)
    (case a_plain_from => k_is)
    (case l_plain_from => k_is)
    (case c_plain_from => k_is)
    (case k_plain_from => k_is)
    (case a_grid_product => k_is)
    (case l_grid_product => k_is)
    (case c_grid_product => k_is)
    (case k_grid_product => k_is)
    (case a_grid_root => k_is)
    (case l_grid_root => k_is)
    (case c_grid_root => k_is)
    (case k_grid_root => k_is)
    (case a_is_grid_root => k_is)
    (case l_is_grid_root => k_is)
    (case c_is_grid_root => k_is)
    (case k_is_grid_root => k_is)
    (case a__law_pen => k_is)
    (case l__law_pen => k_is)
    (case c__law_pen => k_is)
    (case k__law_pen => k_is)
    (case a__law_draw => k_is)
    (case l__law_draw => k_is)
    (case c__law_draw => k_is)
    (case k__law_draw => k_is)
    (case a__law_pick => k_is)
    (case l__law_pick => k_is)
    (case c__law_pick => k_is)
    (case k__law_pick => k_is)
    (case a__law_is_int => k_is)
    (case l__law_is_int => k_is)
    (case c__law_is_int => k_is)
    (case k__law_is_int => k_is)
    (case a__law_gcd => k_is)
    (case l__law_gcd => k_is)
    (case c__law_gcd => k_is)
    (case k__law_gcd => k_is)
    (case a__law_q => k_is)
    (case l__law_q => k_is)
    (case c__law_q => k_is)
    (case k__law_q => k_is)
    (case a__law_root => k_is)
    (case l__law_root => k_is)
    (case c__law_root => k_is)
    (case k__law_root => k_is)
    (case a__law_fault => k_is)
    (case l__law_fault => k_is)
    (case c__law_fault => k_is)
    (case k__law_fault => k_is)
    (case a__law_are_due => k_is)
    (case l__law_are_due => k_is)
    (case c__law_are_due => k_is)
    (case k__law_are_due => k_is)
    (case a__law_says => k_is)
    (case l__law_says => k_is)
    (case c__law_says => k_is)
    (case k__law_says => k_is)
    (case a__law_lists => k_is)
    (case l__law_lists => k_is)
    (case c__law_lists => k_is)
    (case k__law_lists => k_is)
    (case a__law_either => k_is)
    (case l__law_either => k_is)
    (case c__law_either => k_is)
    (case k__law_either => k_is)
    (case a__law_drawn => k_is)
    (case l__law_drawn => k_is)
    (case c__law_drawn => k_is)
    (case k__law_drawn => k_is)
    (case a__law_zero_of => k_is)
    (case l__law_zero_of => k_is)
    (case c__law_zero_of => k_is)
    (case k__law_zero_of => k_is)
    (case a__law_is_number => k_is)
    (case l__law_is_number => k_is)
    (case c__law_is_number => k_is)
    (case k__law_is_number => k_is)
    (case a__law_due => k_is)
    (case l__law_due => k_is)
    (case c__law_due => k_is)
    (case k__law_due => k_is)
    (case aC_Unlike => k_is)
    (case aC_TooMany => k_is)
    (case aC_BadRow => k_is)
    (case aC_BadPoly => k_is)
    (case aC_BadNumber => k_is)
    (case xf_Unlike => kernel_rfl)
    (case no1_Unlike => kernel_rfl)
    (case xf_TooMany => kernel_rfl)
    (case no1_TooMany => kernel_rfl)
    (case xf_BadRow => kernel_rfl)
    (case no1_BadRow => kernel_rfl)
    (case xf_BadPoly => kernel_rfl)
    (case no1_BadPoly => kernel_rfl)
    (case xf_BadNumber => kernel_rfl)
    (case no1_BadNumber => kernel_rfl)
    (case aD => k_is)
    (case bd1 => k_is)
    (case bd2 => k_is)
    (case bd3 => k_is)
    (case bd4 => k_is)
    (case xL_BadRow => k_is)
    (case rv_BadRow => decide +kernel)
    (case sa_BadRow => k_is)
    (case eC_BadRow => k_is)
    (case tC_BadRow => k_is)
    (case kC_BadRow => k_is)
    (case iC_BadRow => k_is)
    (case tI_BadRow => k_is)
    (case l_BadRow => k_is)
    (case c_BadRow => k_is)
    (case k_BadRow => k_is)
    (case nof_BadRow => kernel_rfl)
    (case zm_bool => k_is)
    (case zm_isinstance => k_is)
    (case zm_int => k_is)
    (case zm_tuple => k_is)
    (case zm_list => k_is)
    (case zm_len => k_is)
    (case zm_range => k_is)
    (case zm_zip => k_is)
    (case zm_all => k_is)
    (case zm_MOST_LEVEL => k_is)
    (case zm_abs => k_is)
    (case xNN => kernel_rfl)
    (case xRN => kernel_rfl)
    (case xRP => kernel_rfl)
    (case xRR => kernel_rfl)
    (case zm_repr => k_is)
    (case a_law => k_is)
    (case l_law => k_is)
    (case ci_law => k_is)
    (case k_law => k_is)
    (case nT => kernel_rfl)
    (case ch => kernel_rfl)



