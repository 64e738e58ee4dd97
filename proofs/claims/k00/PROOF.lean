import PyProof.Rows.All
import Wide.All
import OpenK.AllK
import Wide.FinOn
import HandS.ForMost
import HandS.Exc
import HandS.ExcOwn
import HandS.ExcInit
import HandS.WordsExc
import HandS.TryMany
import HandS.Wide
import HandS.IsInst
import PyProof.ReprRoads
import HandS.Lambda
import HandS.EndTab
import HandS.Gcd
import HandS.Style
import HandS.WideBits
import HandS.TupAny
import HandS.TupMul
import HandS.ExcField
import PyProof.ReprBulk
import HandS.Zip
import PyProof.P3In
import HandS.ExcIs
import HandS.TryOnly
import KE.KExcIs
import PySem.Challenge.RW_drawproofs_k00_errors_made_by_hand
set_option Elab.async false
set_option linter.all false
set_option maxRecDepth 100000
set_option maxHeartbeats 2000000
/-! DL0: promises of defs for runs around which nothing is being shown (so that repr may be asked). Own work over HandS. -/
namespace DL
open PySem PySem.Spec PyProof.Rows L2

/-- a def's promise, for calls around which no repr runs -/
structure FnG (P : Program) (w : World) (K : PySem.W.Frag) (mg : Str → Option Value) (base : Heap) (k : Nat) (f : Addr) (fd : FuncData) (ps : List Str) (sp : Sp) : Prop where
  len : ∀ vs H Q E, sp vs H Q E → vs.length = ps.length
  run : ∀ (A : Around) (outer : List Env) (s : Shared) (H : Hp) (args : Args) (us : List Value) (vs : List V) (Q : VK) (E : XK), A.guards = some [] → Room k A → Env0 P w K mg base A outer s H → BindsTo s fd args (ps.zip us) → Vals vs us → sp vs H Q E →
    codeAny (model P w) A (.call (.ref f) args) (CR (L2.CX P w) outer P w H s Q E) s
section
variable {P : Program} {w : World} {K : PySem.W.Frag} {mg : Str → Option Value} {base : Heap}
theorem FnG.mono {j k : Nat} {f : Addr} {fd : FuncData} {ps : List Str} {sp : Sp} (F : FnG P w K mg base j f fd ps sp) (h : j ≤ k) : FnG P w K mg base k f fd ps sp :=
  ⟨F.len, fun A outer s H args us vs Q E hg hr => F.run A outer s H args us vs Q E hg (hr.mono h)⟩
theorem FnG.imp {k : Nat} {f : Addr} {fd : FuncData} {ps : List Str} {sp sp' : Sp} (F : FnG P w K mg base k f fd ps sp) (h : ∀ vs H Q E, sp' vs H Q E → sp vs H Q E) : FnG P w K mg base k f fd ps sp' :=
  ⟨fun vs H Q E q => F.len vs H Q E (h _ _ _ _ q), fun A outer s H args us vs Q E hg hr he hb hv hs => F.run A outer s H args us vs Q E hg hr he hb hv (h _ _ _ _ hs)⟩
/-- by the body; what is around the call may be told of it -/
theorem FnG.of {x qual : Str} {st : Stmt} {f : Addr} {fd : FuncData} {N ps : List Str} {k : Nat} {sp : Sp} (F : Fun K x qual st f fd) (S : FnScope N ps (defScope st)) (len : ∀ vs H Q E, sp vs H Q E → vs.length = ps.length)
    (body : ∀ (cdv : Value), fd.code = cdv → ∀ (A : Around) (outer : List Env) (s : Shared) (H : Hp) (vs : List V) (Q : VK) (E : XK), A.guards = some [] → Room k (A.deeper (envOfC qual (defScope st) s.heap.objs.size f cdv)) → sp vs H Q E →
      ∃ t, PSs (cxOf (L2.CX P w) P w K mg base N qual (defScope st) f cdv A outer s H E) (defBody st) t ∧ t { nx := fun _ H' => Q .non H', rt := Q } (L2.start N vs) H) : FnG P w K mg base (k + 1) f fd ps sp := by
  obtain ⟨oc, od, kV, doc, pm, an, cdv, ct, osl, rfl, lk, hcd⟩ := F.ex
  refine ⟨len, fun A outer s H args us vs Q E hg hr e0 hb r hsp => ?_⟩
  -- the same def, its promise cut down to this very call
  let one : Sp := fun vs' H' Q' E' => vs' = vs ∧ H' = H ∧ Q' = Q ∧ E' = E
  have hl := len _ _ _ _ hsp
  have KX : K.In s.heap := e0.mod.kin.keeps fun b o e => (e0.bs b o e).1
  have lim : s.heap.NoLimit := e0.mod.nolimit.keeps fun b o e => (e0.bs b o e).1
  have kinds : ∀ y ∈ ps.zip us, (defScope st).names.lookup y.1 = some .local ∨ ((defScope st).names.lookup y.1 = some .cell ∧ ((cellsFrom (s.heap.objs.size + 1) (defScope st).names []).lookup y.1).isSome = true) := by
    rintro ⟨n, v⟩ hy
    have hn := S.par n (List.of_mem_zip hy).1
    exact hn.imp id fun q => ⟨q, PySem.W.cellsFrom_some _ _ _ (.inl q)⟩
  obtain ⟨t, ht, hq⟩ := body cdv rfl A outer s H vs Q E hg (hr.deeper _) hsp
  refine codeAny_call_function hr.depth (KX _ _ lk) rfl S.co S.gen rfl (PySem.W.codeRec_of KX hcd) (hb _ _ _ _ (wpAny_newFunctionEnv_cells S.kind kinds fun env he s1 x => ?_))
  subst he
  have I : Inv (cxOf (L2.CX P w) P w K mg base N qual (defScope st) f cdv A outer s H E) [] (start N vs) H s1 := inv_start S hr.hd e0 hl r x
  refine ⟨lim.keeps x.toInCall.keep, codeAny_func (wpAny_mono (ht.run [] s1 _ H _ I hq) (fun fl s' hs => ?_) fun _ _ z => z)⟩
  cases fl with
  | ret u => obtain ⟨v, σ', H', J, rv, q⟩ := hs; exact ⟨v, H', J.os, J.bare, J.base, J.hok, rv, q⟩
  | next => obtain ⟨σ', H', J, q⟩ := hs; exact ⟨V.non, H', J.os, J.bare, J.base, J.hok, (rfl : RelV V.non Value.none), q⟩
  | brk => obtain ⟨_, _, _, q⟩ := hs; exact q.elim
  | cont => obtain ⟨_, _, _, q⟩ := hs; exact q.elim
end
section
variable {X : Cx} {k : Nat} {f C : Addr} {fd : FuncData} {ps : List Str} {sp : Sp} {x : Str} {p pos : Pos} {e : Expr} {es : List Expr} {t : TA} {W : WX}
theorem run_G {pins : List (Addr × Obj)} {σ : L2.St} {H : Hp} {s : Shared} {Q : VK} {us : List Value} {vs : List V} {E : XK} (F : FnG X.prog X.w X.K X.mg X.base k f fd ps sp) (hgd : X.A.guards = some []) (hr : Room k X.A) (hb : Binds X.K fd ps [])
    (hx : PassesAt (L2.CX X.prog X.w) X σ E) (I : Inv X pins σ H s) (r : Vals vs us) (h : sp vs H Q E) : wpAny (model X.prog X.w) X.A (call (.ref f) us) (EP X pins σ Q) X.xe s := by
  have hl : us.length = ps.length := by rw [← r.length]; exact F.len _ _ _ _ h
  have b := hb s us I.kIn (by rw [List.append_nil]; exact hl)
  rw [List.append_nil] at b
  have c := F.run X.A X.stack s H ⟨us, []⟩ us vs Q E hgd hr I.env0 b r h
  refine wpAny_call (codeAny_mono c fun res s' hq => ?_)
  match res, hq with
  | .error er, hq => exact hx pins H s er s' I hq
  | .ok (.ret u), hq => exact I.after hq
theorem pe_callG (F : FnG X.prog X.w X.K X.mg X.base k f fd ps sp) (hgd : X.A.guards = some []) (hr : Room k X.A) (tk : Takes X W) (hg : Gl X x) (hm : X.mg x = some (.ref f)) (hk : PySem.W.keepIn X.K (.ref f) = true) (hb : Binds X.K fd ps [])
    (ha : PA X (e :: es) t) (hdb : (x == ("__debug__" : Str)) = false := by decide) (he : starEach (e :: es) X.env = (false, eval e X.env) :: starEach es X.env := by rfl) (hpl : (backTo pos (starEach es X.env)).any (·.1) = false := by rfl) :
    PE X (.Call (.Name x p) (e :: es) [] pos) (tCallS sp (WE W) t) := by
  refine ⟨fun pins s σ H Q I h => wpAny_Call_Name_kw (ld_glob I hg hm ?_ hdb)⟩
  refine PySem.W.callWith_K (h₀ := X.base) I.ok.mod.kin hk (thn (ha.run pos pins s σ H _ I h) ?_) he hpl
  rintro us s1 ⟨vs, H1, I1, r, q⟩
  exact ⟨I1.kIn, run_G F hgd hr hb (passAt tk σ) I1 r q⟩
theorem pe_callG0 (F : FnG X.prog X.w X.K X.mg X.base k f fd ps sp) (hgd : X.A.guards = some []) (hr : Room k X.A) (tk : Takes X W) (hg : Gl X x) (hm : X.mg x = some (.ref f)) (hk : PySem.W.keepIn X.K (.ref f) = true) (hb : Binds X.K fd ps [])
    (hdb : (x == ("__debug__" : Str)) = false := by decide) : PE X (.Call (.Name x p) [] [] pos) (tCallS sp (WE W) tNil) := by
  refine ⟨fun pins s σ H Q I h => wpAny_Call_Name_kw (ld_glob I hg hm ?_ hdb)⟩
  exact PySem.W.callWith_K0 I.kIn hk (run_G (us := []) F hgd hr hb (passAt tk σ) I .nil h)
end

end DL


set_option maxRecDepth 100000
set_option maxHeartbeats 2000000
/-! DL1: plain data over the abstract heap; a wp-monad; judgements of expressions by data. Own work. -/
namespace DL
open PySem PySem.Spec PyProof.Rows L2

/-- a lambda without parameters, as it lies -/
structure CloR where
  qual : Str
  params : Arguments
  body : Expr
  scope : Scope
  cl : List (Str × Addr)
  pm : Value
  code : Addr
  ctv : Value
abbrev CloR.obj (r : CloR) : Obj := PySem.W.kla_obj "<lambda>" r.qual r.params r.body r.scope r.cl r.pm r.code r.ctv
/-- the very object o stands at a -/
def FixO (a : Addr) (o : Obj) : HO := .ext fun h => h.get? a = some o
/-- a code object of the name q stands at c -/
def CodO (c : Addr) (q : Str) : HO := .ext fun h => ∃ (oc : Obj) (vs : Array Value) (t : Tok), h.get? c = some oc ∧ oc.data = .fields vs ∧ vs[1]? = some (.str q t)
/-- plain data -/
inductive D where
  | non | bl (b : Bool) | int (i : Int) | str (x : Str)
  | tup (ds : List D) | lst (ds : List D) | dic (ks : List Key) (ds : List D)
  | obj (C : Addr) (ns : List Str) (ds : List D) | exc (C : Addr) (ns : List Str) (ds : List D) | pen
  /-- a lambda; its captured values are known (b), or not yet -/
  | clo (b : Bool) (r : CloR) (ds : List D)
  /-- a def of the program as a value -/
  | fnA (a : Addr)
  /-- the script -/
  | scr (K : PySem.W.Frag) (ns : List Int) (tabs : List Addr)

/-- a pen's numbers -/
structure Pen where
  at_ : Int
  dg : Int
  ct : Int
  fd : Int
def penK (c : Addr) (p : Pen) : List (Key × V) := [(.inr "cells", .ref c), (.inr "at", .int p.at_), (.inr "digits", .int p.dg), (.inr "count", .int p.ct), (.inr "fold", .int p.fd)]
structure Pen.Ok (p : Pen) : Prop where
  at0 : 0 ≤ p.at_
  dg0 : 0 ≤ p.dg
  ct0 : 0 ≤ p.ct
  fd0 : 0 ≤ p.fd
  fd1 : p.fd < 2147483123
/-- the first key of a pen -/
def isPen (kvs : List (Key × V)) : Bool := match kvs with
  | (.inr k, _) :: _ => k == ("cells" : Str)
  | _ => false
theorem isPen_pen (c : Addr) (p : Pen) : isPen (penK c p) = true := rfl
theorem penK_inj {c c' : Addr} {p p' : Pen} (h : penK c p = penK c' p') : c = c' ∧ p = p' := by
  obtain ⟨a1, a2, a3, a4⟩ := p
  obtain ⟨b1, b2, b3, b4⟩ := p'
  simp only [penK, List.cons.injEq, Prod.mk.injEq, V.ref.injEq, V.int.injEq, true_and, and_true] at h
  obtain ⟨rfl, rfl, rfl, rfl, rfl⟩ := h
  exact ⟨rfl, rfl⟩

mutual
/-- v stands for d in H; F: what is never changed -/
inductive Has (F : Addr → Prop) (H : Hp) : V → D → Prop
  | non : Has F H .non .non
  | bl (b : Bool) : Has F H (.bl b) (.bl b)
  | int (i : Int) : Has F H (.int i) (.int i)
  | str (x : Str) : Has F H (.str x) (.str x)
  | tup {a : Addr} {vs : List V} {ds : List D} : F a → H a = some (.tup vs) → HasL F H vs ds → Has F H (.ref a) (.tup ds)
  | lst {a : Addr} {vs : List V} {ds : List D} : F a → H a = some (.lst vs) → HasL F H vs ds → Has F H (.ref a) (.lst ds)
  | dic {a : Addr} {kvs : List (Key × V)} {ks : List Key} {ds : List D} : F a → H a = some (.dK kvs) → isPen kvs = false → kvs.map (·.1) = ks → HasL F H (kvs.map (·.2)) ds → Has F H (.ref a) (.dic ks ds)
  | obj {a C dx : Addr} {fs : List (Str × V)} {ns : List Str} {ds : List D} : F a → H a = some (.ins C dx fs) → fs.map (·.1) = ns → HasL F H (fs.map (·.2)) ds → Has F H (.ref a) (.obj C ns ds)
  | pen {a c : Addr} {p : Pen} {ns : List Int} : F a → H a = some (.dK (penK c p)) → p.Ok → F c → H c = some (.lst (ns.map V.int)) → ns.length ≤ 63 → Has F H (.ref a) .pen
  | clo0 {a : Addr} {r : CloR} {ds : List D} : F a → H a = some (FixO a r.obj) → F r.code → H r.code = some (CodO r.code r.qual) → Has F H (.ref a) (.clo false r ds)
  | clo1 {a : Addr} {r : CloR} {vs : List V} {ds : List D} : F a → H a = some (FixO a r.obj) → F r.code → H r.code = some (CodO r.code r.qual) → vs.length = r.cl.length → (∀ p ∈ r.cl.zip vs, F p.1.2 ∧ ∃ u o, RelV p.2 u ∧ o.data = .cell (some u) ∧ H p.1.2 = some (FixO p.1.2 o)) → HasL F H vs ds → Has F H (.ref a) (.clo true r ds)
  | fnA (a : Addr) : Has F H (.ref a) (.fnA a)
  | exc {a C dx : Addr} {fs : List (Str × V)} {ns : List Str} {ds : List D} : F a → H a = some (exo a C (some dx)) → F dx → H dx = some (exd dx fs) → fs.map (·.1) = ns → HasL F H (fs.map (·.2)) ds → Has F H (.ref a) (.exc C ns ds)
  | exc0 {a C : Addr} : F a → H a = some (exo a C none) → Has F H (.ref a) (.exc C [] [])
  | scr {a : Addr} {K : PySem.W.Frag} {ns : List Int} {tabs : List Addr} : ((∃ o, F a ∧ H a = some (.frz o (.lst (ns.map V.int)))) ∨ ∀ H' : Hp, SqL K H' a (ns.map V.int)) → (∀ P ∈ tabs, F P ∧ ∃ ps, H P = some (.tbl ps)) → Has F H (.ref a) (.scr K ns tabs)
inductive HasL (F : Addr → Prop) (H : Hp) : List V → List D → Prop
  | nil : HasL F H [] []
  | cons {v : V} {d : D} {vs : List V} {ds : List D} : Has F H v d → HasL F H vs ds → HasL F H (v :: vs) (d :: ds)
end

/-- the full name of the law's lambdas -/
def qLam : Str := "law.<locals>.<lambda>"
/-- a table of code objects of the law's lambdas -/
structure TblOk (F : Addr → Prop) (H : Hp) (ps : Array Value) : Prop where
  tr : TriplesOk ps.toList
  at_ : ∀ (pos : Pos) (cv : Value), codeAmong pos ps.toList = some cv → ∃ c, cv = .ref c ∧ F c ∧ H c = some (CodO c qLam)
theorem TblOk.mono {F F' : Addr → Prop} {H H' : Hp} {ps : Array Value} (t : TblOk F H ps) (h1 : ∀ c, F c → F' c) (h2 : ∀ c, F c → H c = some (CodO c qLam) → H' c = some (CodO c qLam)) : TblOk F' H' ps :=
  ⟨t.tr, fun pos cv e => let ⟨c, e1, f, e2⟩ := t.at_ pos cv e; ⟨c, e1, h1 c f, h2 c f e2⟩⟩
/-- no pen has been asked more than n times; F is of what is there; the tables are in order -/
structure PenB (F : Addr → Prop) (H : Hp) (n : Nat) : Prop where
  ct : ∀ a c p, H a = some (.dK (penK c p)) → p.ct ≤ (n : Int)
  dom : ∀ a, F a → ∃ o, H a = some o
  tb : ∀ P ps, H P = some (.tbl ps) → TblOk F H ps
/-- an object that stands, but that a pen was asked, that a table of code objects grew -/
def Soft (o : HO) (q : Option HO) : Prop := q = some o ∨ (∃ c p p', o = .dK (penK c p) ∧ q = some (.dK (penK c p')) ∧ (p.Ok → p'.Ok)) ∨ ∃ ps more, o = .tbl ps ∧ q = some (.tbl (ps ++ more))
/-- neither a pen nor a table -/
structure Hard (o : HO) : Prop where
  pen : ∀ c p, o ≠ .dK (penK c p)
  tbl : ∀ ps, o ≠ .tbl ps
theorem Soft.hard {o : HO} {q : Option HO} (s : Soft o q) (h : Hard o) : q = some o := by
  rcases s with s | ⟨c, p, _, e, _⟩ | ⟨ps, _, e, _⟩
  · exact s
  · exact absurd e (h.pen c p)
  · exact absurd e (h.tbl ps)
theorem Soft.trans {o : HO} {H H' : Hp} {a : Addr} (s : Soft o (H a)) (k : ∀ u, H a = some u → Soft u (H' a)) : Soft o (H' a) := by
  rcases s with s | ⟨c, p, p', e, s, ok⟩ | ⟨ps, more, e, s⟩
  · exact k _ s
  · rcases k _ s with s2 | ⟨c2, p2, p2', e2, s2, ok2⟩ | ⟨ps, more, e2, s2⟩
    · exact .inr (.inl ⟨c, p, p', e, s2, ok⟩)
    · obtain ⟨rfl, rfl⟩ := penK_inj (HO.dK.inj e2)
      exact .inr (.inl ⟨c, p, p2', e, s2, fun z => ok2 (ok z)⟩)
    · cases e2
  · rcases k _ s with s2 | ⟨c2, p2, p2', e2, s2, ok2⟩ | ⟨ps2, more2, e2, s2⟩
    · exact .inr (.inr ⟨ps, more, e, s2⟩)
    · cases e2
    · cases e2
      exact .inr (.inr ⟨ps, more ++ more2, e, by rw [s2, Array.append_assoc]⟩)
theorem Soft.some {o : HO} {q : Option HO} (s : Soft o q) : q ≠ none := by
  rcases s with s | ⟨_, _, _, _, s, _⟩ | ⟨_, _, _, s⟩ <;> rw [s] <;> simp
theorem Hard.tup {xs : List V} : Hard (.tup xs) := ⟨fun _ _ e => (by cases e), fun _ e => (by cases e)⟩
theorem Hard.lst {xs : List V} : Hard (.lst xs) := ⟨fun _ _ e => (by cases e), fun _ e => (by cases e)⟩
theorem Hard.ins {C d : Addr} {fs : List (Str × V)} : Hard (.ins C d fs) := ⟨fun _ _ e => (by cases e), fun _ e => (by cases e)⟩
theorem Hard.xd {fs : List (Str × V)} : Hard (.xd fs) := ⟨fun _ _ e => (by cases e), fun _ e => (by cases e)⟩
theorem Hard.ext {φ : Heap → Prop} : Hard (.ext φ) := ⟨fun _ _ e => (by cases e), fun _ e => (by cases e)⟩
theorem Hard.frz {o : Obj} {u : HO} : Hard (.frz o u) := ⟨fun _ _ e => (by cases e), fun _ e => (by cases e)⟩
theorem Hard.dK {kvs : List (Key × V)} (h : isPen kvs = false) : Hard (.dK kvs) := ⟨fun c p e => (by cases e; cases h), fun _ e => (by cases e)⟩
/-- what stood stands, but that pens were asked; F' is F and new ones -/
structure Grow (F : Addr → Prop) (H : Hp) (n : Nat) (F' : Addr → Prop) (H' : Hp) (n' : Nat) : Prop where
  keep : ∀ a o, H a = some o → Soft o (H' a)
  sub : ∀ a, F a → F' a
  new : ∀ a, F' a → F a ∨ H a = none
  pb : PenB F' H' n'
  le : n ≤ n'

theorem Grow.keepL {F F' : Addr → Prop} {H H' : Hp} {n n' : Nat} (g : Grow F H n F' H' n') {a : Addr} {o : HO} (h : H a = some o) (hn : Hard o) : H' a = some o := (g.keep a o h).hard hn

/-- what stood in F stands, but that pens were asked; F' has F -/
structure Later (F : Addr → Prop) (H : Hp) (n : Nat) (F' : Addr → Prop) (H' : Hp) (n' : Nat) : Prop where
  keep : ∀ a o, F a → H a = some o → Soft o (H' a)
  sub : ∀ a, F a → F' a
  le : n ≤ n'
theorem Grow.later {F F' : Addr → Prop} {H H' : Hp} {n n' : Nat} (g : Grow F H n F' H' n') : Later F H n F' H' n' := ⟨fun a o _ h => g.keep a o h, g.sub, g.le⟩
theorem Later.keepL {F F' : Addr → Prop} {H H' : Hp} {n n' : Nat} (g : Later F H n F' H' n') {a : Addr} {o : HO} (f : F a) (h : H a = some o) (hn : Hard o) : H' a = some o := (g.keep a o f h).hard hn
theorem Later.refl {F : Addr → Prop} {H : Hp} {n : Nat} : Later F H n F H n := ⟨fun _ _ _ h => .inl h, fun _ h => h, Nat.le_refl _⟩
theorem Later.trans {F F1 F2 : Addr → Prop} {H H1 H2 : Hp} {n n1 n2 : Nat} (a : Later F H n F1 H1 n1) (b : Later F1 H1 n1 F2 H2 n2) : Later F H n F2 H2 n2 where
  keep := fun x o f h => (a.keep x o f h).trans fun u e => b.keep x u (a.sub x f) e
  sub := fun x h => b.sub x (a.sub x h)
  le := Nat.le_trans a.le b.le

mutual
theorem Has.later {F F' : Addr → Prop} {H H' : Hp} {n n' : Nat} (g : Later F H n F' H' n') : ∀ {v : V} {d : D}, Has F H v d → Has F' H' v d
  | _, _, .non => .non
  | _, _, .bl b => .bl b
  | _, _, .int i => .int i
  | _, _, .str x => .str x
  | _, _, .tup f h l => .tup (g.sub _ f) (g.keepL f h .tup) (HasL.later g l)
  | _, _, .lst f h l => .lst (g.sub _ f) (g.keepL f h .lst) (HasL.later g l)
  | _, _, .dic f h q k l => .dic (g.sub _ f) (g.keepL f h (.dK q)) q k (HasL.later g l)
  | _, _, .fnA a => .fnA a
  | _, _, .exc f h fd hd z l => .exc (g.sub _ f) (g.keepL f h .ext) (g.sub _ fd) (g.keepL fd hd .ext) z (HasL.later g l)
  | _, _, .exc0 f h => .exc0 (g.sub _ f) (g.keepL f h .ext)
  | _, _, .obj f h k l => .obj (g.sub _ f) (g.keepL f h .ins) k (HasL.later g l)
  | _, _, .pen f h ok fc hc hl => by
    have hc' := g.keepL fc hc .lst
    rcases g.keep _ _ f h with h | ⟨c, p, p', e, h, k⟩ | ⟨ps, _, e, _⟩
    · exact .pen (g.sub _ f) h ok (g.sub _ fc) hc' hl
    · obtain ⟨rfl, rfl⟩ := penK_inj (HO.dK.inj e)
      exact .pen (g.sub _ f) h (k ok) (g.sub _ fc) hc' hl
    · cases e
  | _, _, .clo0 f h fc hc => .clo0 (g.sub _ f) (g.keepL f h .ext) (g.sub _ fc) (g.keepL fc hc .ext)
  | _, _, .clo1 f h fc hc hl hs l => .clo1 (g.sub _ f) (g.keepL f h .ext) (g.sub _ fc) (g.keepL fc hc .ext) hl (fun p hp => let ⟨a, u, o, r, dd, e⟩ := hs p hp; ⟨g.sub _ a, u, o, r, dd, g.keepL a e .ext⟩) (HasL.later g l)
  | _, _, .scr h ht => .scr (h.imp_left fun ⟨o, f, e⟩ => ⟨o, g.sub _ f, g.keepL f e .frz⟩) fun P hP => by
    obtain ⟨f, ps, e⟩ := ht P hP
    refine ⟨g.sub _ f, ?_⟩
    rcases g.keep _ _ f e with e | ⟨_, _, _, e, _⟩ | ⟨_, more, _, e⟩
    · exact ⟨ps, e⟩
    · cases e
    · exact ⟨_, e⟩
theorem HasL.later {F F' : Addr → Prop} {H H' : Hp} {n n' : Nat} (g : Later F H n F' H' n') : ∀ {vs : List V} {ds : List D}, HasL F H vs ds → HasL F' H' vs ds
  | _, _, .nil => .nil
  | _, _, .cons h l => .cons (Has.later g h) (HasL.later g l)
end
theorem Has.mono {F F' : Addr → Prop} {H H' : Hp} {n n' : Nat} (g : Grow F H n F' H' n') {v : V} {d : D} (h : Has F H v d) : Has F' H' v d := h.later g.later
theorem HasL.mono {F F' : Addr → Prop} {H H' : Hp} {n n' : Nat} (g : Grow F H n F' H' n') {v : List V} {d : List D} (h : HasL F H v d) : HasL F' H' v d := h.later g.later

theorem Grow.trans {F F1 F2 : Addr → Prop} {H H1 H2 : Hp} {n n1 n2 : Nat} (a : Grow F H n F1 H1 n1) (b : Grow F1 H1 n1 F2 H2 n2) : Grow F H n F2 H2 n2 where
  keep := fun x o h => (a.keep x o h).trans fun u e => b.keep x u e
  sub := fun x h => b.sub x (a.sub x h)
  new := fun x h => by
    rcases b.new x h with h | h
    · exact a.new x h
    · refine .inr ?_
      cases q : H x with
      | none => rfl
      | some o => exact absurd h (a.keep x o q).some
  pb := b.pb
  le := Nat.le_trans a.le b.le
theorem Grow.refl {F : Addr → Prop} {H : Hp} {n : Nat} (pb : PenB F H n) : Grow F H n F H n := ⟨fun _ _ h => .inl h, fun _ h => h, fun _ h => .inl h, pb, Nat.le_refl _⟩
/-- F and p -/
def plusF (F : Addr → Prop) (p : Addr) : Addr → Prop := fun a => F a ∨ a = p
/-- a new object is laid, never to be changed -/
theorem Grow.laid {F : Addr → Prop} {H : Hp} {n : Nat} {p : Addr} {o : HO} (pb : PenB F H n) (hp : H p = none) (hn : Hard o) : Grow F H n (plusF F p) (upd H p o) n where
  keep := fun a u h => .inl (by rw [upd_ne (ne_of_none h hp)]; exact h)
  sub := fun a h => .inl h
  new := fun a h => h.elim .inl fun e => .inr (by rw [e]; exact hp)
  pb := ⟨fun a c q h => by
    by_cases e : a = p
    · subst e
      rw [upd_same] at h
      exact absurd (Option.some.inj h) (hn.pen c q)
    · rw [upd_ne e] at h
      exact pb.ct a c q h, fun a f => by
    by_cases e : a = p
    · subst e
      exact ⟨_, upd_same⟩
    · rw [upd_ne e]
      exact pb.dom a (f.resolve_right e), fun P ps e => by
    by_cases hP : P = p
    · subst hP
      rw [upd_same] at e
      exact absurd (Option.some.inj e) (hn.tbl ps)
    · rw [upd_ne hP] at e
      exact (pb.tb P ps e).mono (fun _ => .inl) fun c _ q => by rw [upd_ne (ne_of_none q hp)]; exact q⟩
  le := Nat.le_refl _
theorem PenB.put {F : Addr → Prop} {H : Hp} {n : Nat} {a : Addr} {o : HO} (pb : PenB F H n) (nf : ¬ F a) (hn : Hard o) : PenB F (upd H a o) n where
  ct := fun b c q h => by
    by_cases e : b = a
    · subst e
      rw [upd_same] at h
      exact absurd (Option.some.inj h) (hn.pen c q)
    · rw [upd_ne e] at h
      exact pb.ct b c q h
  dom := fun b f => by
    rw [upd_ne (fun z => nf (by rw [← z]; exact f))]
    exact pb.dom b f
  tb := fun P ps e => by
    by_cases hP : P = a
    · subst hP
      rw [upd_same] at e
      exact absurd (Option.some.inj e) (hn.tbl ps)
    · rw [upd_ne hP] at e
      exact (pb.tb P ps e).mono (fun _ f => f) fun c f q => by rw [upd_ne (fun z => nf (by rw [← z]; exact f))]; exact q
theorem PenB.sup {F F' : Addr → Prop} {H : Hp} {n : Nat} (pb : PenB F H n) (hs : ∀ b, F b → F' b) (hd : ∀ b, F' b → ∃ o, H b = some o) : PenB F' H n := ⟨pb.ct, hd, fun P ps e => (pb.tb P ps e).mono hs fun _ _ q => q⟩
theorem PenB.out {F : Addr → Prop} {H : Hp} {n : Nat} {a : Addr} (pb : PenB F H n) (h : H a = none) : ¬ F a := fun f => by
  obtain ⟨o, e⟩ := pb.dom a f
  rw [h] at e
  cases e
theorem plusF_same {F : Addr → Prop} {p : Addr} : plusF F p p := .inr rfl

/-! ### the monad -/
structure XD where
  C : Addr
  ns : List Str
  ds : List D
/-- what is wanted of a value, of an error; n: how often pens were asked -/
def Wm (α : Type) : Type := (α → Nat → Prop) → (XD → Nat → Prop) → Nat → Prop
namespace Wm
protected def pure {α : Type} (a : α) : Wm α := fun K _ n => K a n
protected def bind {α β : Type} (m : Wm α) (f : α → Wm β) : Wm β := fun K X n => m (fun a n' => f a K X n') X n
def fail {α : Type} : Wm α := fun _ _ _ => False
def raise {α : Type} (x : XD) : Wm α := fun _ X n => X x n
def need (p : Prop) : Wm Unit := fun K _ n => p ∧ K () n
instance : Monad Wm where
  pure := Wm.pure
  bind := Wm.bind
end Wm
def XFalse : XD → Nat → Prop := fun _ _ => False

/-! ### the slots -/
inductive SV where
  | d (x : D)
  /-- a list of one's own, that is changed yet -/
  | ml (ds : List D)
abbrev Env' := List (Option SV)
def HasV (F : Addr → Prop) (H : Hp) : V → SV → Prop
  | v, .d x => Has F H v x
  | v, .ml ds => ∃ a vs, v = .ref a ∧ H a = some (.lst vs) ∧ HasL F H vs ds ∧ ¬ F a
structure HasS (F : Addr → Prop) (H : Hp) (n : Nat) (σ : L2.St) (ρ : Env') : Prop where
  pb : PenB F H n
  len : σ.length = ρ.length
  at_ : ∀ (i : Nat) (x : SV), ρ[i]? = some (some x) → ∃ v, σ[i]? = some (some v) ∧ HasV F H v x
theorem HasV.mono {F F' : Addr → Prop} {H H' : Hp} {n n' : Nat} (g : Grow F H n F' H' n') {v : V} {x : SV} (h : HasV F H v x) : HasV F' H' v x := by
  cases x with
  | d x => exact Has.mono g h
  | ml ds =>
    obtain ⟨a, vs, e, ha, l, nf⟩ := h
    refine ⟨a, vs, e, g.keepL ha .lst, l.mono g, fun f => ?_⟩
    rcases g.new a f with f | f
    · exact nf f
    · rw [ha] at f; cases f
theorem HasS.mono {F F' : Addr → Prop} {H H' : Hp} {n n' : Nat} {σ : L2.St} {ρ : Env'} (h : HasS F H n σ ρ) (g : Grow F H n F' H' n') : HasS F' H' n' σ ρ :=
  ⟨g.pb, h.len, fun i x e => let ⟨v, a, b⟩ := h.at_ i x e; ⟨v, a, b.mono g⟩⟩

/-- an own error, as it lies -/
def HasX (F : Addr → Prop) (H : Hp) (cls : Value) (od : Option Addr) (x : XD) : Prop :=
  cls = .ref x.C ∧ ∃ d fs, od = some d ∧ H d = some (.xd fs) ∧ fs.map (·.1) = x.ns ∧ HasL F H (fs.map (·.2)) x.ds

/-- no starred expression -/
def plainE : Expr → Bool
  | .Starred _ _ => false
  | _ => true
theorem star_plain {e : Expr} {es : List Expr} {env : Env} (h : plainE e = true) : starEach (e :: es) env = (false, eval e env) :: starEach es env := by
  cases e <;> first | rfl | cases h
/-! ### the judgements -/
abbrev TD (α : Type) := Env' → Wm α
/-- what the reading of an expression is given -/
def RunE (W : WX) (te : TE) (t : TD D) : Prop := ∀ (F : Addr → Prop) (H : Hp) (n : Nat) (σ : L2.St) (ρ : Env') (K : D → Nat → Prop) (X : XD → Nat → Prop) (Q : VK), HasS F H n σ ρ → t ρ K X n →
  (∀ v d F' H' n', Grow F H n F' H' n' → Has F' H' v d → K d n' → Q v H') →
  (∀ cls od xd F' H' n', Grow F H n F' H' n' → HasX F' H' cls od xd → X xd n' → W cls od σ H') → te σ H Q
def RunT (W : WX) (tt : TT) (t : TD Bool) : Prop := ∀ (F : Addr → Prop) (H : Hp) (n : Nat) (σ : L2.St) (ρ : Env') (K : Bool → Nat → Prop) (X : XD → Nat → Prop) (Q : Bool → Hp → Prop), HasS F H n σ ρ → t ρ K X n →
  (∀ b F' H' n', Grow F H n F' H' n' → K b n' → Q b H') →
  (∀ cls od xd F' H' n', Grow F H n F' H' n' → HasX F' H' cls od xd → X xd n' → W cls od σ H') → tt σ H Q
def RunA (W : WX) (ta : TA) (t : TD (List D)) : Prop := ∀ (F : Addr → Prop) (H : Hp) (n : Nat) (σ : L2.St) (ρ : Env') (K : List D → Nat → Prop) (X : XD → Nat → Prop) (Q : List V → Hp → Prop), HasS F H n σ ρ → t ρ K X n →
  (∀ vs ds F' H' n', Grow F H n F' H' n' → HasL F' H' vs ds → K ds n' → Q vs H') →
  (∀ cls od xd F' H' n', Grow F H n F' H' n' → HasX F' H' cls od xd → X xd n' → W cls od σ H') → ta σ H Q
structure DE {ι : Type} (X : ι → Cx) (W : WX) (e : Expr) (t : TD D) : Prop where
  ex : ∃ te, (∀ i, PE (X i) e te) ∧ RunE W te t
structure DT {ι : Type} (X : ι → Cx) (W : WX) (e : Expr) (t : TD Bool) : Prop where
  ex : ∃ te, (∀ i, PT (X i) e te) ∧ RunT W te t
/-- .. whatever its whole is (and, or) -/
structure DW {ι : Type} (X : ι → Cx) (W : WX) (e : Expr) (t : TD Bool) : Prop where
  ex : ∃ te, (∀ i, PW (X i) e te) ∧ RunT W te t
structure DA {ι : Type} (X : ι → Cx) (W : WX) (es : List Expr) (t : TD (List D)) : Prop where
  ex : ∃ ta, (∀ i, PA (X i) es ta) ∧ RunA W ta t

section
variable {ι : Type} {X : ι → Cx} {W : WX}
/-! ### names, constants -/
def getD (i : Nat) : TD D := fun ρ => match ρ[i]? with
  | some (some (.d x)) => pure x
  | _ => Wm.fail
theorem DE.var {i : Nat} {e : Expr} (h : ∀ j, PE (X j) e (tVar i)) : DE X W e (getD i) := ⟨_, h, fun F H n σ ρ K Kx Q hs ht hq _ => by
  have ht : (match ρ[i]? with
    | some (some (.d x)) => (pure x : Wm D)
    | _ => Wm.fail) K Kx n := ht
  match e : ρ[i]? with
  | some (some (.d x)) =>
    rw [e] at ht
    obtain ⟨v, e1, e2⟩ := hs.at_ _ _ e
    exact ⟨v, e1, hq v x F H n (.refl hs.pb) e2 ht⟩
  | some (some (.ml _)) => rw [e] at ht; exact ht.elim
  | some none => rw [e] at ht; exact ht.elim
  | none => rw [e] at ht; exact ht.elim⟩
theorem DE.const {e : Expr} {v : V} {d : D} (h : ∀ j, PE (X j) e (tC v)) (hd : ∀ F H, Has F H v d) : DE X W e (fun _ => pure d) := ⟨_, h, fun F H n σ ρ K Kx Q hs ht hq _ => hq v d F H n (.refl hs.pb) (hd F H) ht⟩
theorem DE.int {i j pos} : DE X W (.Constant (.int i) j pos) (fun _ => pure (.int i)) := .const (fun _ => pe_int) fun _ _ => .int i
theorem DE.bl {b j pos} : DE X W (.Constant (.bool b) j pos) (fun _ => pure (.bl b)) := .const (fun _ => pe_bl) fun _ _ => .bl b
theorem DE.non {j pos} : DE X W (.Constant .none j pos) (fun _ => pure .non) := .const (fun _ => pe_non) fun _ _ => .non
theorem DE.str {x j pos} : DE X W (.Constant (.str x) j pos) (fun _ => pure (.str x)) := .const (fun _ => pe_str) fun _ _ => .str x

/-! ### argument lists, displays -/
theorem DA.nil : DA X W [] (fun _ => pure []) := ⟨_, fun _ => pa_nil, fun F H n σ ρ K Kx Q hs ht hq _ => hq [] [] F H n (.refl hs.pb) .nil ht⟩
theorem DA.cons {e : Expr} {es : List Expr} {t : TD D} {u : TD (List D)} (h1 : DE X W e t) (h2 : DA X W es u) (hp : plainE e = true := by rfl) :
    DA X W (e :: es) (fun ρ => do let d ← t ρ; let ds ← u ρ; pure (d :: ds)) := by
  obtain ⟨te, p1, r1⟩ := h1
  obtain ⟨ta, p2, r2⟩ := h2
  refine ⟨_, fun i => pa_cons (p1 i) (p2 i) (star_plain hp), fun F H n σ ρ K Kx Q hs ht hq hx => ?_⟩
  refine r1 F H n σ ρ _ Kx _ hs ht (fun v d F1 H1 n1 g1 hv ht1 => ?_) hx
  refine r2 F1 H1 n1 σ ρ _ Kx _ (hs.mono g1) ht1 (fun vs ds F2 H2 n2 g2 hvs ht2 => ?_) fun cls od xd F' H' n' g => hx cls od xd F' H' n' (g1.trans g)
  exact hq (v :: vs) (d :: ds) F2 H2 n2 (g1.trans g2) (.cons (hv.mono g2) hvs) ht2
theorem HasL.len {F : Addr → Prop} {H : Hp} : ∀ {vs : List V} {ds : List D}, HasL F H vs ds → vs.length = ds.length
  | _, _, .nil => rfl
  | _, _, .cons _ l => by simp [HasL.len l]
/-- at most a list's line -/
def Fits (n : Nat) : Prop := n ≤ sizeLine
theorem DE.tup {es : List Expr} {t : TD (List D)} {x1 pos} (h : DA X W es t) : DE X W (.Tuple es x1 pos) (fun ρ => do let ds ← t ρ; Wm.need (Fits ds.length); pure (.tup ds)) := by
  obtain ⟨ta, p, r⟩ := h
  refine ⟨_, fun i => pe_tup (p i), fun F H n σ ρ K Kx Q hs ht hq hx => ?_⟩
  refine r F H n σ ρ _ Kx _ hs ht (fun vs ds F1 H1 n1 g1 hvs ht1 => ?_) hx
  refine ⟨by rw [hvs.len]; exact ht1.1, fun a ha => ?_⟩
  have g2 : Grow F1 H1 n1 (plusF F1 a) (upd H1 a (.tup vs)) n1 := .laid g1.pb ha .tup
  exact hq _ (.tup ds) _ _ n1 (g1.trans g2) (.tup plusF_same upd_same (hvs.mono g2)) ht1.2
theorem DE.lst {es : List Expr} {t : TD (List D)} {pos} (h : DA X W es t) : DE X W (.List es pos) (fun ρ => do let ds ← t ρ; Wm.need (Fits ds.length); pure (.lst ds)) := by
  obtain ⟨ta, p, r⟩ := h
  refine ⟨_, fun i => pe_lst (p i), fun F H n σ ρ K Kx Q hs ht hq hx => ?_⟩
  refine r F H n σ ρ _ Kx _ hs ht (fun vs ds F1 H1 n1 g1 hvs ht1 => ?_) hx
  refine ⟨by rw [hvs.len]; exact ht1.1, fun a ha => ?_⟩
  have g2 : Grow F1 H1 n1 (plusF F1 a) (upd H1 a (.lst vs)) n1 := .laid g1.pb ha .lst
  exact hq _ (.lst ds) _ _ n1 (g1.trans g2) (.lst plusF_same upd_same (hvs.mono g2)) ht1.2

/-! ### operators by values -/
/-- the reading r of two values is φ of their data -/
def Sem2 (r : R2) (φ : D → D → Wm D) : Prop := ∀ (F : Addr → Prop) (H : Hp) (n : Nat) (x y : V) (a b : D) (K : D → Nat → Prop) (Q : VK), PenB F H n → Has F H x a → Has F H y b → φ a b K XFalse n →
  (∀ v d F' H' n', Grow F H n F' H' n' → Has F' H' v d → K d n' → Q v H') → r x y H Q
def Sem1 (r : V → Hp → VK → Prop) (φ : D → Wm D) : Prop := ∀ (F : Addr → Prop) (H : Hp) (n : Nat) (x : V) (a : D) (K : D → Nat → Prop) (Q : VK), PenB F H n → Has F H x a → φ a K XFalse n →
  (∀ v d F' H' n', Grow F H n F' H' n' → Has F' H' v d → K d n' → Q v H') → r x H Q
def SemL (r : List V → Hp → VK → Prop) (φ : List D → Wm D) : Prop := ∀ (F : Addr → Prop) (H : Hp) (n : Nat) (xs : List V) (as : List D) (K : D → Nat → Prop) (Q : VK), PenB F H n → HasL F H xs as → φ as K XFalse n →
  (∀ v d F' H' n', Grow F H n F' H' n' → Has F' H' v d → K d n' → Q v H') → r xs H Q
/-- what raises nothing -/
def calm {α : Type} (m : Wm α) : Wm α := fun K _ n => m K XFalse n
theorem DE.op2 {a b e : Expr} {r : R2} {φ : D → D → Wm D} {t u : TD D} (hp : ∀ i ta tb, PE (X i) a ta → PE (X i) b tb → PE (X i) e (tOp r ta tb)) (hr : Sem2 r φ) (h1 : DE X W a t) (h2 : DE X W b u) :
    DE X W e (fun ρ => do let x ← t ρ; let y ← u ρ; calm (φ x y)) := by
  obtain ⟨te, p1, r1⟩ := h1
  obtain ⟨tu, p2, r2⟩ := h2
  refine ⟨_, fun i => hp i _ _ (p1 i) (p2 i), fun F H n σ ρ K Kx Q hs ht hq hx => ?_⟩
  refine r1 F H n σ ρ _ Kx _ hs ht (fun v d F1 H1 n1 g1 hv ht1 => ?_) hx
  refine r2 F1 H1 n1 σ ρ _ Kx _ (hs.mono g1) ht1 (fun w d2 F2 H2 n2 g2 hw ht2 => ?_) fun cls od xd F' H' n' g => hx cls od xd F' H' n' (g1.trans g)
  exact hr F2 H2 n2 v w d d2 K Q g2.pb (hv.mono g2) hw ht2 fun v3 d3 F3 H3 n3 g3 => hq v3 d3 F3 H3 n3 (g1.trans (g2.trans g3))
theorem DE.op1 {a e : Expr} {r : V → Hp → VK → Prop} {φ : D → Wm D} {t : TD D} (hp : ∀ i ta, PE (X i) a ta → PE (X i) e (tUn r ta)) (hr : Sem1 r φ) (h1 : DE X W a t) :
    DE X W e (fun ρ => do let x ← t ρ; calm (φ x)) := by
  obtain ⟨te, p1, r1⟩ := h1
  refine ⟨_, fun i => hp i _ (p1 i), fun F H n σ ρ K Kx Q hs ht hq hx => ?_⟩
  refine r1 F H n σ ρ _ Kx _ hs ht (fun v d F1 H1 n1 g1 hv ht1 => ?_) hx
  exact hr F1 H1 n1 v d K Q g1.pb hv ht1 fun v3 d3 F3 H3 n3 g3 => hq v3 d3 F3 H3 n3 (g1.trans g3)
theorem DE.opL {es : List Expr} {e : Expr} {r : List V → Hp → VK → Prop} {φ : List D → Wm D} {t : TD (List D)} (hp : ∀ i ta, PA (X i) es ta → PE (X i) e (tCB r ta)) (hr : SemL r φ) (h1 : DA X W es t) :
    DE X W e (fun ρ => do let xs ← t ρ; calm (φ xs)) := by
  obtain ⟨te, p1, r1⟩ := h1
  refine ⟨_, fun i => hp i _ (p1 i), fun F H n σ ρ K Kx Q hs ht hq hx => ?_⟩
  refine r1 F H n σ ρ _ Kx _ hs ht (fun vs ds F1 H1 n1 g1 hv ht1 => ?_) hx
  exact hr F1 H1 n1 vs ds K Q g1.pb hv ht1 fun v3 d3 F3 H3 n3 g3 => hq v3 d3 F3 H3 n3 (g1.trans g3)

/-! ### tests -/
theorem DT.val {e : Expr} {t : TD D} (h : DE X W e t) (he : ∀ i whole, isTrue e (X i).env whole = (do let v ← whole; standAt e.pos; holding [v] (truthy v)) := by intro _ _; rfl) :
    DT X W e (fun ρ => do match ← t ρ with | .bl b => pure b | _ => Wm.fail) := by
  obtain ⟨te, p1, r1⟩ := h
  refine ⟨_, fun i => pt_val (p1 i) (he i), fun F H n σ ρ K Kx Q hs ht hq hx => ?_⟩
  refine r1 F H n σ ρ _ Kx _ hs ht (fun v d F1 H1 n1 g1 hv ht1 => ?_) hx
  cases hv with
  | bl b => exact ⟨b, rfl, hq b F1 H1 n1 g1 ht1⟩
  | _ => exact ht1.elim
theorem DT.cmp {a b : Expr} {op : CmpOp} {pos} {r : R2} {φ : D → D → Wm D} {t u : TD D} (ho : ∀ i, OpR (X i) (compareOp op) r) (hr : Sem2 r φ) (h1 : DE X W a t) (h2 : DE X W b u) (hm : behindInMarks op b = false := by first | exact nomark _ | rfl) :
    DT X W (.Compare a [op] [b] pos) (fun ρ => do let x ← t ρ; let y ← u ρ; match ← calm (φ x y) with | .bl b => pure b | _ => Wm.fail) := by
  obtain ⟨te, p1, r1⟩ := h1
  obtain ⟨tu, p2, r2⟩ := h2
  refine ⟨_, fun i => pt_cmpR (ho i) (p1 i) (p2 i) hm, fun F H n σ ρ K Kx Q hs ht hq hx => ?_⟩
  refine r1 F H n σ ρ _ Kx _ hs ht (fun v d F1 H1 n1 g1 hv ht1 => ?_) hx
  refine r2 F1 H1 n1 σ ρ _ Kx _ (hs.mono g1) ht1 (fun w d2 F2 H2 n2 g2 hw ht2 => ?_) fun cls od xd F' H' n' g => hx cls od xd F' H' n' (g1.trans g)
  refine hr F2 H2 n2 v w d d2 _ _ g2.pb (hv.mono g2) hw ht2 fun v3 d3 F3 H3 n3 g3 hv3 ht3 => ?_
  cases hv3 with
  | bl b => exact ⟨b, rfl, hq b F3 H3 n3 (g1.trans (g2.trans g3)) ht3⟩
  | _ => exact ht3.elim
theorem DT.not {a : Expr} {t : TD Bool} {pos} (h : DT X W a t) : DT X W (.UnaryOp .Not a pos) (fun ρ => do let b ← t ρ; pure (!b)) := by
  obtain ⟨te, p1, r1⟩ := h
  exact ⟨_, fun i => pt_not (p1 i), fun F H n σ ρ K Kx Q hs ht hq hx => r1 F H n σ ρ _ Kx _ hs ht (fun b F1 H1 n1 g1 ht1 => hq (!b) F1 H1 n1 g1 ht1) hx⟩
theorem DW.pt {e : Expr} {t : TD Bool} (h : DW X W e t) : DT X W e t := let ⟨te, p, r⟩ := h; ⟨te, fun i => (p i).pt, r⟩
theorem DW.and1 {a : Expr} {t : TD Bool} {pos} (h : DT X W a t) : DW X W (.BoolOp .And [a] pos) t := let ⟨te, p, r⟩ := h; ⟨te, fun i => pw_and1 (p i), r⟩
theorem DW.or1 {a : Expr} {t : TD Bool} {pos} (h : DT X W a t) : DW X W (.BoolOp .Or [a] pos) t := let ⟨te, p, r⟩ := h; ⟨te, fun i => pw_or1 (p i), r⟩
theorem DW.and {a b : Expr} {rest : List Expr} {t u : TD Bool} {pos} (h1 : DT X W a t) (h2 : DW X W (.BoolOp .And (b :: rest) pos) u) : DW X W (.BoolOp .And (a :: b :: rest) pos) (fun ρ => do if ← t ρ then u ρ else pure false) := by
  obtain ⟨te, p1, r1⟩ := h1
  obtain ⟨tu, p2, r2⟩ := h2
  refine ⟨_, fun i => pw_and (p1 i) (p2 i), fun F H n σ ρ K Kx Q hs ht hq hx => ?_⟩
  refine r1 F H n σ ρ _ Kx _ hs ht (fun b F1 H1 n1 g1 ht1 => ?_) hx
  cases b with
  | true => exact iteT (r2 F1 H1 n1 σ ρ K Kx Q (hs.mono g1) ht1 (fun b F2 H2 n2 g2 => hq b F2 H2 n2 (g1.trans g2)) fun cls od xd F' H' n' g => hx cls od xd F' H' n' (g1.trans g))
  | false => exact iteF (hq false F1 H1 n1 g1 ht1)
theorem DW.or {a b : Expr} {rest : List Expr} {t u : TD Bool} {pos} (h1 : DT X W a t) (h2 : DW X W (.BoolOp .Or (b :: rest) pos) u) : DW X W (.BoolOp .Or (a :: b :: rest) pos) (fun ρ => do if ← t ρ then pure true else u ρ) := by
  obtain ⟨te, p1, r1⟩ := h1
  obtain ⟨tu, p2, r2⟩ := h2
  refine ⟨_, fun i => pw_or (p1 i) (p2 i), fun F H n σ ρ K Kx Q hs ht hq hx => ?_⟩
  refine r1 F H n σ ρ _ Kx _ hs ht (fun b F1 H1 n1 g1 ht1 => ?_) hx
  cases b with
  | true => exact iteT (hq true F1 H1 n1 g1 ht1)
  | false => exact iteF (r2 F1 H1 n1 σ ρ K Kx Q (hs.mono g1) ht1 (fun b F2 H2 n2 g2 => hq b F2 H2 n2 (g1.trans g2)) fun cls od xd F' H' n' g => hx cls od xd F' H' n' (g1.trans g))

/-! ### the same as values -/
theorem DE.one {op} {a : Expr} {t : TD D} {pos} (h : DE X W a t) : DE X W (.BoolOp op [a] pos) t := let ⟨te, p, r⟩ := h; ⟨te, fun i => pe_one (p i), r⟩
theorem DE.and {a b : Expr} {rest : List Expr} {t u : TD D} {pos} (h1 : DE X W a t) (h2 : DE X W (.BoolOp .And (b :: rest) pos) u) : DE X W (.BoolOp .And (a :: b :: rest) pos) (fun ρ => do match ← t ρ with | .bl true => u ρ | .bl false => pure (.bl false) | _ => Wm.fail) := by
  obtain ⟨te, p1, r1⟩ := h1
  obtain ⟨tu, p2, r2⟩ := h2
  refine ⟨_, fun i => pe_and (p1 i) (p2 i), fun F H n σ ρ K Kx Q hs ht hq hx => ?_⟩
  refine r1 F H n σ ρ _ Kx _ hs ht (fun v d F1 H1 n1 g1 hv ht1 => ?_) hx
  cases hv with
  | bl b =>
    cases b with
    | true => exact ⟨true, rfl, iteT (r2 F1 H1 n1 σ ρ K Kx Q (hs.mono g1) ht1 (fun v d F2 H2 n2 g2 => hq v d F2 H2 n2 (g1.trans g2)) fun cls od xd F' H' n' g => hx cls od xd F' H' n' (g1.trans g))⟩
    | false => exact ⟨false, rfl, iteF (hq _ _ F1 H1 n1 g1 (.bl false) ht1)⟩
  | _ => exact ht1.elim
theorem DE.or {a b : Expr} {rest : List Expr} {t u : TD D} {pos} (h1 : DE X W a t) (h2 : DE X W (.BoolOp .Or (b :: rest) pos) u) : DE X W (.BoolOp .Or (a :: b :: rest) pos) (fun ρ => do match ← t ρ with | .bl true => pure (.bl true) | .bl false => u ρ | _ => Wm.fail) := by
  obtain ⟨te, p1, r1⟩ := h1
  obtain ⟨tu, p2, r2⟩ := h2
  refine ⟨_, fun i => pe_or (p1 i) (p2 i), fun F H n σ ρ K Kx Q hs ht hq hx => ?_⟩
  refine r1 F H n σ ρ _ Kx _ hs ht (fun v d F1 H1 n1 g1 hv ht1 => ?_) hx
  cases hv with
  | bl b =>
    cases b with
    | true => exact ⟨true, rfl, iteT (hq _ _ F1 H1 n1 g1 (.bl true) ht1)⟩
    | false => exact ⟨false, rfl, iteF (r2 F1 H1 n1 σ ρ K Kx Q (hs.mono g1) ht1 (fun v d F2 H2 n2 g2 => hq v d F2 H2 n2 (g1.trans g2)) fun cls od xd F' H' n' g => hx cls od xd F' H' n' (g1.trans g))⟩
  | _ => exact ht1.elim
theorem DE.not {a : Expr} {t : TD D} {pos} (h : DE X W a t) : DE X W (.UnaryOp .Not a pos) (fun ρ => do match ← t ρ with | .bl b => pure (.bl (!b)) | _ => Wm.fail) := by
  obtain ⟨te, p1, r1⟩ := h
  refine ⟨_, fun i => pe_not (p1 i), fun F H n σ ρ K Kx Q hs ht hq hx => ?_⟩
  refine r1 F H n σ ρ _ Kx _ hs ht (fun v d F1 H1 n1 g1 hv ht1 => ?_) hx
  cases hv with
  | bl b => exact ⟨b, rfl, hq _ _ F1 H1 n1 g1 (.bl _) ht1⟩
  | _ => exact ht1.elim
theorem DE.cmp {a b : Expr} {op : CmpOp} {pos} {r : R2} {φ : D → D → Wm D} {t u : TD D} (ho : ∀ i, OpR (X i) (compareOp op) r) (hr : Sem2 r φ) (h1 : DE X W a t) (h2 : DE X W b u) (hm : behindInMarks op b = false := by first | exact nomark _ | rfl) :
    DE X W (.Compare a [op] [b] pos) (fun ρ => do let x ← t ρ; let y ← u ρ; calm (φ x y)) := .op2 (fun i _ _ pa pb => pe_cmpR (ho i) pa pb hm) hr h1 h2
theorem DE.ifExp {c a b : Expr} {tc : TD Bool} {t u : TD D} {pos} (hc : DT X W c tc) (h1 : DE X W a t) (h2 : DE X W b u) : DE X W (.IfExp c a b pos) (fun ρ => do if ← tc ρ then t ρ else u ρ) := by
  obtain ⟨tt, p0, r0⟩ := hc
  obtain ⟨te, p1, r1⟩ := h1
  obtain ⟨tu, p2, r2⟩ := h2
  refine ⟨_, fun i => pe_ifExp (p0 i) (p1 i) (p2 i), fun F H n σ ρ K Kx Q hs ht hq hx => ?_⟩
  refine r0 F H n σ ρ _ Kx _ hs ht (fun b F1 H1 n1 g1 ht1 => ?_) hx
  cases b with
  | true => exact iteT (r1 F1 H1 n1 σ ρ K Kx Q (hs.mono g1) ht1 (fun v d F2 H2 n2 g2 => hq v d F2 H2 n2 (g1.trans g2)) fun cls od xd F' H' n' g => hx cls od xd F' H' n' (g1.trans g))
  | false => exact iteF (r2 F1 H1 n1 σ ρ K Kx Q (hs.mono g1) ht1 (fun v d F2 H2 n2 g2 => hq v d F2 H2 n2 (g1.trans g2)) fun cls od xd F' H' n' g => hx cls od xd F' H' n' (g1.trans g))

/-! ### calls of one's own defs -/
/-- the promise of a def that takes m values to what w tells of their data -/
def spD (m : Nat) (w : List D → Wm D) : Sp := fun vs H Q E => vs.length = m ∧ ∃ F n ds K X, PenB F H n ∧ HasL F H vs ds ∧ w ds K X n ∧
  (∀ v d F' H' n', Grow F H n F' H' n' → Has F' H' v d → K d n' → Q v H') ∧ (∀ cls od xd F' H' n', Grow F H n F' H' n' → HasX F' H' cls od xd → X xd n' → E cls od H')
theorem DE.call {x : Str} {p pos : Pos} {e : Expr} {es : List Expr} {t : TD (List D)} {k f fd} {ps : List Str} {w : List D → Wm D} {m : Nat} (F : ∀ i, FnG (X i).prog (X i).w (X i).K (X i).mg (X i).base k f fd ps (spD m w)) (hgd : ∀ i, (X i).A.guards = some []) (hr : ∀ i, Room k (X i).A)
    (tk : ∀ i, Takes (X i) W) (hg : ∀ i, Gl (X i) x) (hm : ∀ i, (X i).mg x = some (.ref f)) (hk : ∀ i, PySem.W.keepIn (X i).K (.ref f) = true) (hb : ∀ i, Binds (X i).K fd ps []) (h : DA X W (e :: es) t) (hdb : (x == ("__debug__" : Str)) = false := by decide)
    (he : plainE e = true := by rfl) (hpl : ∀ i, (backTo pos (starEach es (X i).env)).any (·.1) = false := by intro _; rfl) :
    DE X W (.Call (.Name x p) (e :: es) [] pos) (fun ρ => do let ds ← t ρ; Wm.need (ds.length = m); w ds) := by
  obtain ⟨ta, p1, r1⟩ := h
  refine ⟨_, fun i => pe_callG (F i) (hgd i) (hr i) (tk i) (hg i) (hm i) (hk i) (hb i) (p1 i) hdb (star_plain he) (hpl i), fun F H n σ ρ K Kx Q hs ht hq hx => ?_⟩
  refine r1 F H n σ ρ _ Kx _ hs ht (fun vs ds F1 H1 n1 g1 hv ht1 => ?_) hx
  exact ⟨by rw [hv.len]; exact ht1.1, F1, n1, ds, K, Kx, g1.pb, hv, ht1.2, fun v d F2 H2 n2 g2 => hq v d F2 H2 n2 (g1.trans g2), fun cls od xd F' H' n' g => hx cls od xd F' H' n' (g1.trans g)⟩
theorem DE.call0 {x : Str} {p pos : Pos} {k f fd} {ps : List Str} {w : List D → Wm D} (F : ∀ i, FnG (X i).prog (X i).w (X i).K (X i).mg (X i).base k f fd ps (spD 0 w)) (hgd : ∀ i, (X i).A.guards = some []) (hr : ∀ i, Room k (X i).A)
    (tk : ∀ i, Takes (X i) W) (hg : ∀ i, Gl (X i) x) (hm : ∀ i, (X i).mg x = some (.ref f)) (hk : ∀ i, PySem.W.keepIn (X i).K (.ref f) = true) (hb : ∀ i, Binds (X i).K fd ps []) (hdb : (x == ("__debug__" : Str)) = false := by decide) :
    DE X W (.Call (.Name x p) [] [] pos) (fun _ => w []) := by
  refine ⟨_, fun i => pe_callG0 (F i) (hgd i) (hr i) (tk i) (hg i) (hm i) (hk i) (hb i) hdb, fun F H n σ ρ K Kx Q hs ht hq hx => ?_⟩
  exact ⟨rfl, F, n, [], K, Kx, hs.pb, .nil, ht, hq, hx⟩
end
end DL


set_option maxRecDepth 100000
set_option maxHeartbeats 2000000
/-! DL2: statements, loops, functions by data. Own work. -/
namespace DL
open PySem PySem.Spec PyProof.Rows L2

/-- the entry -/
structure Base where
  F : Addr → Prop
  H : Hp
  n : Nat
structure Stt (B : Base) (F : Addr → Prop) (H : Hp) (n : Nat) (σ : L2.St) (ρ : Env') : Prop where
  grow : Grow B.F B.H B.n F H n
  hs : HasS F H n σ ρ
  own : ∀ (i : Nat) (ds : List D) (a : Addr), ρ[i]? = some (some (.ml ds)) → σ[i]? = some (some (.ref a)) → B.H a = none
  sep : ∀ (i j : Nat) (ds es : List D) (a : Addr), i ≠ j → ρ[i]? = some (some (.ml ds)) → ρ[j]? = some (some (.ml es)) → σ[i]? = some (some (.ref a)) → σ[j]? = some (some (.ref a)) → False
theorem Stt.mono {B : Base} {F F' : Addr → Prop} {H H' : Hp} {n n' : Nat} {σ : L2.St} {ρ : Env'} (s : Stt B F H n σ ρ) (g : Grow F H n F' H' n') : Stt B F' H' n' σ ρ :=
  ⟨s.grow.trans g, s.hs.mono g, s.own, s.sep⟩

structure DEnds where
  nx : Env' → Nat → Prop
  rt : D → Nat → Prop
  bk : Env' → Nat → Prop := fun _ _ => False
  ct : Env' → Nat → Prop := fun _ _ => False
  ex : XD → Env' → Nat → Prop := fun _ _ _ => False
abbrev TDS := DEnds → Env' → Nat → Prop
structure EndsOk (W : WX) (B : Base) (F₁ : Addr → Prop) (H₁ : Hp) (n₁ : Nat) (E : DEnds) (D : Ends) : Prop where
  nx : ∀ σ ρ F H n, Stt B F H n σ ρ → Later F₁ H₁ n₁ F H n → E.nx ρ n → D.nx σ H
  bk : ∀ σ ρ F H n, Stt B F H n σ ρ → Later F₁ H₁ n₁ F H n → E.bk ρ n → D.bk σ H
  ct : ∀ σ ρ F H n, Stt B F H n σ ρ → Later F₁ H₁ n₁ F H n → E.ct ρ n → D.ct σ H
  rt : ∀ v d F H n, Grow B.F B.H B.n F H n → Has F H v d → E.rt d n → D.rt v H
  ex : ∀ cls od xd σ ρ F H n, Stt B F H n σ ρ → Later F₁ H₁ n₁ F H n → HasX F H cls od xd → E.ex xd ρ n → W cls od σ H
theorem EndsOk.later {W : WX} {B : Base} {F₁ F₂ : Addr → Prop} {H₁ H₂ : Hp} {n₁ n₂ : Nat} {E : DEnds} {D : Ends} (e : EndsOk W B F₁ H₁ n₁ E D) (l : Later F₁ H₁ n₁ F₂ H₂ n₂) : EndsOk W B F₂ H₂ n₂ E D :=
  ⟨fun σ ρ F H n s l2 => e.nx σ ρ F H n s (l.trans l2), fun σ ρ F H n s l2 => e.bk σ ρ F H n s (l.trans l2), fun σ ρ F H n s l2 => e.ct σ ρ F H n s (l.trans l2), e.rt, fun c o x σ ρ F H n s l2 => e.ex c o x σ ρ F H n s (l.trans l2)⟩
def RunS (W : WX) (ts : TS) (t : TDS) : Prop := ∀ (B : Base) (F : Addr → Prop) (H : Hp) (n : Nat) (σ : L2.St) (ρ : Env') (E : DEnds) (D : Ends), Stt B F H n σ ρ → t E ρ n → EndsOk W B F H n E D → ts D σ H
structure DS {ι : Type} (X : ι → Cx) (W : WX) (st : Stmt) (t : TDS) : Prop where
  ex : ∃ ts, (∀ i, PS (X i) st ts) ∧ RunS W ts t
structure DSs {ι : Type} (X : ι → Cx) (W : WX) (st : List Stmt) (t : TDS) : Prop where
  ex : ∃ ts, (∀ i, PSs (X i) st ts) ∧ RunS W ts t
/-- an expression within a statement -/
def onE (m : TD D) (k : D → Env' → Nat → Prop) : TDS := fun E ρ n => m ρ (fun d n' => k d ρ n') (fun x n' => E.ex x ρ n') n
def onT (m : TD Bool) (k : Bool → Env' → Nat → Prop) : TDS := fun E ρ n => m ρ (fun d n' => k d ρ n') (fun x n' => E.ex x ρ n') n
theorem RunE.on {W : WX} {te : TE} {t : TD D} (r : RunE W te t) {B : Base} {F : Addr → Prop} {H : Hp} {n : Nat} {σ : L2.St} {ρ : Env'} {k : D → Env' → Nat → Prop} {E : DEnds} {Z : Ends} {Q : VK} (s : Stt B F H n σ ρ) (h : onE t k E ρ n) (eo : EndsOk W B F H n E Z)
    (hq : ∀ v d F' H' n', Stt B F' H' n' σ ρ → Grow F H n F' H' n' → Has F' H' v d → k d ρ n' → EndsOk W B F' H' n' E Z → Q v H') : te σ H Q :=
  r F H n σ ρ _ _ Q s.hs h (fun v d F' H' n' g hv hk => hq v d F' H' n' (s.mono g) g hv hk (eo.later g.later)) fun cls od xd F' H' n' g hx he => eo.ex cls od xd σ ρ F' H' n' (s.mono g) g.later hx he
theorem RunT.on {W : WX} {te : TT} {t : TD Bool} (r : RunT W te t) {B : Base} {F : Addr → Prop} {H : Hp} {n : Nat} {σ : L2.St} {ρ : Env'} {E : DEnds} {D : Ends} {k : Bool → Env' → Nat → Prop} {Q : Bool → Hp → Prop} (s : Stt B F H n σ ρ) (h : onT t k E ρ n) (eo : EndsOk W B F H n E D)
    (hq : ∀ b F' H' n', Stt B F' H' n' σ ρ → Grow F H n F' H' n' → k b ρ n' → EndsOk W B F' H' n' E D → Q b H') : te σ H Q :=
  r F H n σ ρ _ _ Q s.hs h (fun b F' H' n' g hk => hq b F' H' n' (s.mono g) g hk (eo.later g.later)) fun cls od xd F' H' n' g hx he => eo.ex cls od xd σ ρ F' H' n' (s.mono g) g.later hx he

section
variable {ι : Type} {X : ι → Cx} {W : WX}
/-! ### blocks -/
def dNext : TDS := fun E ρ n => E.nx ρ n
def dSeq (t u : TDS) : TDS := fun E ρ n => t { E with nx := fun ρ' n' => u E ρ' n' } ρ n
theorem DSs.nil : DSs X W [] dNext := ⟨_, fun _ => pss_nil, fun B F H n σ ρ E D s h eo => eo.nx σ ρ F H n s .refl h⟩
theorem DSs.cons {st : Stmt} {rest : List Stmt} {t u : TDS} (h1 : DS X W st t) (h2 : DSs X W rest u) : DSs X W (st :: rest) (dSeq t u) := by
  obtain ⟨ts, p1, r1⟩ := h1
  obtain ⟨us, p2, r2⟩ := h2
  refine ⟨_, fun i => pss_cons (p1 i) (p2 i), fun B F H n σ ρ E D s h eo => ?_⟩
  refine r1 B F H n σ ρ _ _ s h ⟨fun σ' ρ' F' H' n' s' l hn => ?_, eo.bk, eo.ct, eo.rt, eo.ex⟩
  exact r2 B F' H' n' σ' ρ' E D s' hn (eo.later l)
theorem DSs.one {st : Stmt} {t : TDS} (h1 : DS X W st t) : DSs X W [st] t := by
  obtain ⟨ts, p1, r1⟩ := h1
  exact ⟨_, fun i => pss_one (p1 i), r1⟩
theorem DS.pass {pos} : DS X W (.Pass pos) dNext := ⟨_, fun _ => ps_pass, fun B F H n σ ρ E D s h eo => eo.nx σ ρ F H n s .refl h⟩
theorem DS.brk {pos} : DS X W (.Break pos) (fun E ρ n => E.bk ρ n) := ⟨_, fun _ => ps_break, fun B F H n σ ρ E D s h eo => eo.bk σ ρ F H n s .refl h⟩
theorem DS.cont {pos} : DS X W (.Continue pos) (fun E ρ n => E.ct ρ n) := ⟨_, fun _ => ps_continue, fun B F H n σ ρ E D s h eo => eo.ct σ ρ F H n s .refl h⟩
theorem DS.doc {x j pos pos'} : DS X W (.Expr (.Constant (.str x) j pos) pos') dNext := ⟨_, fun _ => ps_doc, fun B F H n σ ρ E D s h eo => eo.nx σ ρ F H n s .refl h⟩
theorem DS.expr {e : Expr} {t : TD D} {pos : Pos} (h : DE X W e t) (hs : ∀ i, swapsWith e none pos.line (X i).env = pure false := by intro _; rfl) : DS X W (.Expr e pos) (fun E => onE t (fun _ ρ n => E.nx ρ n) E) := by
  obtain ⟨te, p, r⟩ := h
  refine ⟨_, fun i => ps_expr (p i) (hs i), fun B F H n σ ρ E D s h eo => ?_⟩
  exact r.on s h eo fun v d F' H' n' s' g hv hk eo' => eo'.nx σ ρ F' H' n' s' .refl hk
theorem DS.ret {e : Expr} {t : TD D} {pos : Pos} (h : DE X W e t) : DS X W (.Return (some e) pos) (fun E => onE t (fun d _ n => E.rt d n) E) := by
  obtain ⟨te, p, r⟩ := h
  refine ⟨_, fun i => ps_ret (p i), fun B F H n σ ρ E D s h eo => ?_⟩
  exact r.on s h eo fun v d F' H' n' s' g hv hk eo' => eo'.rt v d F' H' n' s'.grow hv hk
theorem DS.retN {pos : Pos} : DS X W (.Return none pos) (fun E _ n => E.rt .non n) := ⟨_, fun _ => ps_retN, fun B F H n σ ρ E D s h eo => eo.rt .non .non F H n s.grow .non h⟩
theorem DS.ifS {c : Expr} {a b : List Stmt} {tc : TD Bool} {t u : TDS} {pos : Pos} (hc : DT X W c tc) (ha : DSs X W a t) (hb : DSs X W b u) : DS X W (.If c a b pos) (fun E => onT tc (fun k ρ n => if k = true then t E ρ n else u E ρ n) E) := by
  obtain ⟨te, p, r⟩ := hc
  obtain ⟨ts, p1, r1⟩ := ha
  obtain ⟨us, p2, r2⟩ := hb
  refine ⟨_, fun i => ps_if (p i) (p1 i) (p2 i), fun B F H n σ ρ E D s h eo => ?_⟩
  refine r.on s h eo fun b F' H' n' s' g hk eo' => ?_
  cases b with
  | true => exact iteT (r1 B F' H' n' σ ρ E D s' (by simpa using hk) eo')
  | false => exact iteF (r2 B F' H' n' σ ρ E D s' (by simpa using hk) eo')
end

/-! ### slots -/
theorem HasS.set {F : Addr → Prop} {H : Hp} {n : Nat} {σ : L2.St} {ρ : Env'} {i : Nat} {v : V} {x : SV} (h : HasS F H n σ ρ) (hv : HasV F H v x) : HasS F H n (σ.set i (some v)) (ρ.set i (some x)) := by
  refine ⟨h.pb, by simp [h.len], fun j y e => ?_⟩
  by_cases hj : i = j
  · subst hj
    by_cases hl : i < ρ.length
    · rw [List.getElem?_set_self hl] at e
      have e := Option.some.inj (Option.some.inj e)
      subst e
      exact ⟨v, List.getElem?_set_self (by rw [h.len]; exact hl), hv⟩
    · rw [List.getElem?_eq_none (by simp; omega)] at e
      cases e
  · rw [List.getElem?_set_ne hj] at e ⊢
    exact h.at_ j y e
theorem ml_set {ρ : Env'} {i j : Nat} {x : D} {ds : List D} (e : (ρ.set i (some (.d x)))[j]? = some (some (.ml ds))) : i ≠ j ∧ ρ[j]? = some (some (.ml ds)) := by
  by_cases hj : i = j
  · subst hj
    by_cases hl : i < ρ.length
    · rw [List.getElem?_set_self hl] at e
      cases e
    · rw [List.getElem?_eq_none (by simp; omega)] at e
      cases e
  · rw [List.getElem?_set_ne hj] at e
    exact ⟨hj, e⟩
theorem Stt.set {B : Base} {F : Addr → Prop} {H : Hp} {n : Nat} {σ : L2.St} {ρ : Env'} {i : Nat} {v : V} {d : D} (s : Stt B F H n σ ρ) (hv : Has F H v d) : Stt B F H n (σ.set i (some v)) (ρ.set i (some (.d d))) := by
  refine ⟨s.grow, s.hs.set hv, fun j ds a e1 e2 => ?_, fun j k ds es a hne e1 e2 e3 e4 => ?_⟩
  · obtain ⟨hj, e⟩ := ml_set e1
    rw [List.getElem?_set_ne hj] at e2
    exact s.own j ds a e e2
  · obtain ⟨hj, f1⟩ := ml_set e1
    obtain ⟨hk, f2⟩ := ml_set e2
    rw [List.getElem?_set_ne hj] at e3
    rw [List.getElem?_set_ne hk] at e4
    exact s.sep j k ds es a hne f1 f2 e3 e4

/-! ### targets -/
/-- only the slots ts are others, and they are no lists of one's own -/
structure Only (ts : List Nat) (σ σ' : L2.St) (ρ ρ' : Env') : Prop where
  ls : σ'.length = σ.length
  lr : ρ'.length = ρ.length
  out : ∀ i, i ∉ ts → σ'[i]? = σ[i]? ∧ ρ'[i]? = ρ[i]?
  no : ∀ i ds, i ∈ ts → ρ'[i]? ≠ some (some (.ml ds))
theorem Only.refl {σ : L2.St} {ρ : Env'} : Only [] σ σ ρ ρ := ⟨rfl, rfl, fun _ _ => ⟨rfl, rfl⟩, fun _ _ h => by simp at h⟩
theorem Only.trans {ts us : List Nat} {σ σ1 σ2 : L2.St} {ρ ρ1 ρ2 : Env'} (a : Only ts σ σ1 ρ ρ1) (b : Only us σ1 σ2 ρ1 ρ2) : Only (ts ++ us) σ σ2 ρ ρ2 where
  ls := b.ls.trans a.ls
  lr := b.lr.trans a.lr
  out := fun i h => by
    have h1 : i ∉ ts := fun z => h (List.mem_append_left _ z)
    have h2 : i ∉ us := fun z => h (List.mem_append_right _ z)
    exact ⟨(b.out i h2).1.trans (a.out i h1).1, (b.out i h2).2.trans (a.out i h1).2⟩
  no := fun i ds h => by
    by_cases h2 : i ∈ us
    · exact b.no i ds h2
    · rw [(b.out i h2).2]
      exact a.no i ds ((List.mem_append.mp h).resolve_right h2)
theorem Only.set {σ : L2.St} {ρ : Env'} {k : Nat} {v : V} {d : D} : Only [k] σ (σ.set k (some v)) ρ (ρ.set k (some (.d d))) where
  ls := by simp
  lr := by simp
  out := fun i h => by
    have hk : k ≠ i := fun e => h (by simp [e])
    exact ⟨List.getElem?_set_ne hk, List.getElem?_set_ne hk⟩
  no := fun i ds h e => by
    have hi : i = k := by simpa using h
    exact (ml_set e).1 hi.symm
theorem Stt.only {B : Base} {F : Addr → Prop} {H : Hp} {n : Nat} {σ σ' : L2.St} {ρ ρ' : Env'} {ts : List Nat} (s : Stt B F H n σ ρ) (hs : HasS F H n σ' ρ') (o : Only ts σ σ' ρ ρ') : Stt B F H n σ' ρ' := by
  have key : ∀ (i : Nat) (ds : List D), ρ'[i]? = some (some (.ml ds)) → ρ[i]? = some (some (.ml ds)) ∧ σ'[i]? = σ[i]? := fun i ds e => by
    by_cases h : i ∈ ts
    · exact absurd e (o.no i ds h)
    · exact ⟨by rw [← (o.out i h).2]; exact e, (o.out i h).1⟩
  refine ⟨s.grow, hs, fun i ds a e1 e2 => ?_, fun i j ds es a hne e1 e2 e3 e4 => ?_⟩
  · obtain ⟨h1, h2⟩ := key i ds e1
    exact s.own i ds a h1 (by rw [← h2]; exact e2)
  · obtain ⟨h1, h2⟩ := key i ds e1
    obtain ⟨h3, h4⟩ := key j es e2
    exact s.sep i j ds es a hne h1 h3 (by rw [← h2]; exact e3) (by rw [← h4]; exact e4)
abbrev TDG := D → Env' → Option Env'
def RunG (tg : TG) (g : TDG) (ts : List Nat) : Prop := ∀ (F : Addr → Prop) (H : Hp) (n : Nat) (σ : L2.St) (ρ ρ' : Env') (v : V) (d : D) (Q : L2.St → Hp → Prop), HasS F H n σ ρ → Has F H v d → g d ρ = some ρ' → (∀ σ', HasS F H n σ' ρ' → Only ts σ σ' ρ ρ' → Q σ' H) → tg v σ H Q
structure DG {ι : Type} (X : ι → Cx) (e : Expr) (g : TDG) (ts : List Nat) : Prop where
  ex : ∃ tg, (∀ i, PG (X i) e tg) ∧ RunG tg g ts
abbrev TDGs := List D → Env' → Option Env'
def RunGs (tg : TGs) (g : TDGs) (ts : List Nat) : Prop := ∀ (F : Addr → Prop) (H : Hp) (n : Nat) (σ : L2.St) (ρ ρ' : Env') (vs : List V) (ds : List D) (Q : L2.St → Hp → Prop), HasS F H n σ ρ → HasL F H vs ds → g ds ρ = some ρ' → (∀ σ', HasS F H n σ' ρ' → Only ts σ σ' ρ ρ' → Q σ' H) → tg vs σ H Q
structure DGs {ι : Type} (X : ι → Cx) (es : List Expr) (g : TDGs) (ts : List Nat) : Prop where
  ex : ∃ tg, (∀ i, PGs (X i) es tg) ∧ RunGs tg g ts
section
variable {ι : Type} {X : ι → Cx} {W : WX}
def dName (k : Nat) : TDG := fun d ρ => some (ρ.set k (some (.d d)))
theorem DG.name {k : Nat} {e : Expr} (h : ∀ i, PG (X i) e (gName k)) : DG X e (dName k) [k] := ⟨_, h, fun F H n σ ρ ρ' v d Q s hv e hq => by
  cases e
  exact hq _ (s.set hv) .set⟩
def dgNil : TDGs := fun ds ρ => match ds with | [] => some ρ | _ => none
def dgCons (g : TDG) (gs : TDGs) : TDGs := fun ds ρ => match ds with | d :: r => (g d ρ).bind (gs r) | [] => none
def dgTup (m : Nat) (gs : TDGs) : TDG := fun d ρ => match d with | .tup ds => if ds.length = m then gs ds ρ else none | _ => none
theorem DGs.nil : DGs X [] dgNil [] := ⟨_, fun _ => pgs_nil, fun F H n σ ρ ρ' vs ds Q s hv e hq => by
  cases hv with
  | nil => cases e; exact ⟨rfl, hq σ s .refl⟩
  | cons _ _ => cases e⟩
theorem DGs.cons {e : Expr} {es : List Expr} {g : TDG} {gs : TDGs} {ts us : List Nat} (h1 : DG X e g ts) (h2 : DGs X es gs us) (hs : ∀ i, (assignEach (e :: es) (X i).env).map (·.2) = assign e (X i).env :: (assignEach es (X i).env).map (·.2) := by intro _; rfl) :
    DGs X (e :: es) (dgCons g gs) (ts ++ us) := by
  obtain ⟨t1, p1, r1⟩ := h1
  obtain ⟨t2, p2, r2⟩ := h2
  refine ⟨_, fun i => pgs_cons (p1 i) (p2 i) (hs i), fun F H n σ ρ ρ' vs ds Q s hv e hq => ?_⟩
  cases hv with
  | nil => cases e
  | @cons v d vs ds hv hr =>
    obtain ⟨ρ1, e1, e2⟩ := Option.bind_eq_some_iff.mp e
    exact ⟨v, vs, rfl, r1 F H n σ ρ ρ1 v d _ s hv e1 fun σ1 s1 o1 => r2 F H n σ1 ρ1 ρ' vs ds Q s1 hr e2 fun σ2 s2 o2 => hq σ2 s2 (o1.trans o2)⟩
theorem DG.tup {es : List Expr} {k m : Nat} {pos : Pos} {gs : TDGs} {ts : List Nat} {K : PySem.W.Frag} (hK : ∀ i, (X i).K = K) (hc : ∀ i, (X i).calm = true) (h : DGs X es gs ts)
    (hn : ∀ i, (assignEach es (X i).env).length = m := by intro _; rfl) (hst : ∀ i, (assignEach es (X i).env).findIdx? (·.1) = none := by intro _; rfl) :
    DG X (.Tuple es k pos) (dgTup m gs) ts := by
  obtain ⟨tg, p, r⟩ := h
  refine ⟨gTup K m tg, fun i => by rw [← hK i]; exact pg_tup (hc i) (p i) (hn i) (hst i), fun F H n σ ρ ρ' v d Q s hv e hq => ?_⟩
  cases hv with
  | @tup a vs ds f ha hl =>
    have e : (if ds.length = m then gs ds ρ else none) = some ρ' := e
    by_cases hm : ds.length = m
    · rw [if_pos hm] at e
      exact ⟨a, vs, rfl, .of ha, by rw [hl.len]; exact hm, r F H n σ ρ ρ' vs ds Q s hl e hq⟩
    · rw [if_neg hm] at e
      cases e
  | _ => cases e
/-- target = value -/
def dAsg (t : TD D) (g : TDG) : TDS := fun E => onE t (fun d ρ n => match g d ρ with | some ρ' => E.nx ρ' n | none => False) E
theorem DS.asg {tg e : Expr} {t : TD D} {g : TDG} {us : List Nat} {pos : Pos} (h : DE X W e t) (hg : DG X tg g us) (hs : ∀ i, swapsWithSole [tg] e pos.line (X i).env = pure false := by intro _; rfl) (hw : ∀ i, swappedStores [tg] e (X i).env = pure none := by intro _; rfl)
    (h1 : ∀ i, (assignEach [tg] (X i).env).map (·.2) = [assign tg (X i).env] := by intro _; rfl) : DS X W (.Assign [tg] e pos) (dAsg t g) := by
  obtain ⟨te, p, r⟩ := h
  obtain ⟨tg, pg, rg⟩ := hg
  refine ⟨_, fun i => ps_asg (p i) (pg i) (hs i) (hw i) (h1 i), fun B F H n σ ρ E D s h eo => ?_⟩
  refine r.on s h eo fun v d F' H' n' s' g' hv hk eo' => ?_
  cases q : g d ρ with
  | none => rw [q] at hk; exact hk.elim
  | some ρ' =>
    rw [q] at hk
    exact rg F' H' n' σ ρ ρ' v d _ s'.hs hv q fun σ' s2 o => eo'.nx σ' ρ' F' H' n' (s'.only s2 o) .refl hk
theorem DS.set {k : Nat} {x : Str} {e : Expr} {t : TD D} {pos pos' : Pos} (hN : ∀ i, (X i).N.Nodup) (hi : ∀ i, (X i).N[k]? = some x) (hx : ∀ i, Loc (X i).env.scope x) (h : DE X W e t) (hs : ∀ i, swapsWith e (some (.Name x pos')) pos.line (X i).env = pure false := by intro _; rfl)
    (hf : ∀ i, (X i).fn x = true ∨ (X i).env.scope.names.lookup x = some .local := by first | exact fun _ => .inl rfl | exact fun _ => .inr rfl) : DS X W (.Assign [.Name x pos'] e pos) (dAsg t (dName k)) := by
  obtain ⟨te, p, r⟩ := h
  refine ⟨_, fun i => ps_set (i := k) (hN i) (hi i) (hx i) (p i) (hs i) (hf i), fun B F H n σ ρ E D s h eo => ?_⟩
  exact r.on s h eo fun v d F' H' n' s' g' hv hk eo' => eo'.nx _ _ F' H' n' (s'.set hv) .refl hk

/-! ### lists of one's own -/
/-- from here on it is not changed any more -/
def dFreeze (k : Nat) (t : TDS) : TDS := fun E ρ n => match ρ[k]? with
  | some (some (.ml ds)) => t E (ρ.set k (some (.d (.lst ds)))) n
  | _ => False
theorem set_id {α : Type} {l : List α} {i : Nat} {x : α} (h : l[i]? = some x) : l.set i x = l := by
  obtain ⟨hl, e⟩ := List.getElem?_eq_some_iff.mp h
  rw [← e]
  exact List.set_getElem_self hl
theorem Stt.freeze {B : Base} {F : Addr → Prop} {H : Hp} {n : Nat} {σ : L2.St} {ρ : Env'} {k : Nat} {ds : List D} (s : Stt B F H n σ ρ) (e : ρ[k]? = some (some (.ml ds))) : ∃ F', Stt B F' H n σ (ρ.set k (some (.d (.lst ds)))) ∧ Later F H n F' H n := by
  obtain ⟨v, e1, a, vs, rfl, ha, hl, nf⟩ := s.hs.at_ k _ e
  have hB : B.H a = none := s.own k ds a e e1
  have l : Later F H n (plusF F a) H n := ⟨fun b o f h => .inl h, fun b f => .inl f, Nat.le_refl _⟩
  refine ⟨plusF F a, ⟨⟨s.grow.keep, fun b f => .inl (s.grow.sub b f), fun b f => f.elim (s.grow.new b) fun q => .inr (by rw [q]; exact hB), s.hs.pb.sup (fun _ => .inl) (fun b f => f.elim (s.hs.pb.dom b) fun q => ⟨_, q ▸ ha⟩), s.grow.le⟩, ⟨s.hs.pb.sup (fun _ => .inl) (fun b f => f.elim (s.hs.pb.dom b) fun q => ⟨_, q ▸ ha⟩), by simp [s.hs.len], fun j y ej => ?_⟩, fun j es b f1 f2 => ?_, fun j j2 es fs b hne f1 f2 f3 f4 => ?_⟩, l⟩
  · by_cases hj : k = j
    · subst hj
      rw [List.getElem?_set_self (List.getElem?_eq_some_iff.mp e).1] at ej
      have ej := Option.some.inj (Option.some.inj ej)
      subst ej
      exact ⟨_, e1, .lst plusF_same ha (hl.later l)⟩
    · rw [List.getElem?_set_ne hj] at ej
      obtain ⟨w, w1, w2⟩ := s.hs.at_ j y ej
      refine ⟨w, w1, ?_⟩
      cases y with
      | d x => exact Has.later l w2
      | ml es =>
        obtain ⟨b, ws, rfl, hb, hl2, nf2⟩ := w2
        refine ⟨b, ws, rfl, hb, hl2.later l, fun f => f.elim nf2 fun q => ?_⟩
        subst q
        exact s.sep k j ds es b hj e ej e1 w1
  · obtain ⟨hj, f⟩ := ml_set f1
    exact s.own j es b f f2
  · obtain ⟨hj, g1⟩ := ml_set f1
    obtain ⟨hk, g2⟩ := ml_set f2
    exact s.sep j j2 es fs b hne g1 g2 f3 f4
theorem RunS.freeze {W : WX} {ts : TS} {t : TDS} (k : Nat) (r : RunS W ts t) : RunS W ts (dFreeze k t) := fun B F H n σ ρ E D s h eo => by
  have h : (match ρ[k]? with
    | some (some (.ml ds)) => t E (ρ.set k (some (.d (.lst ds)))) n
    | _ => False) := h
  match e : ρ[k]? with
  | some (some (.ml ds)) =>
    rw [e] at h
    obtain ⟨F', s', l⟩ := s.freeze e
    exact r B F' H n σ _ E D s' h (eo.later l)
  | some (some (.d _)) => rw [e] at h; exact h.elim
  | some none => rw [e] at h; exact h.elim
  | none => rw [e] at h; exact h.elim
theorem DS.freeze {st : Stmt} {t : TDS} (k : Nat) (h : DS X W st t) : DS X W st (dFreeze k t) := let ⟨ts, p, r⟩ := h; ⟨ts, p, r.freeze k⟩
theorem DSs.freeze {st : List Stmt} {t : TDS} (k : Nat) (h : DSs X W st t) : DSs X W st (dFreeze k t) := let ⟨ts, p, r⟩ := h; ⟨ts, p, r.freeze k⟩
/-- x = [e, ..], x to be changed -/
def dOwn (k : Nat) (t : TD (List D)) : TDS := fun E ρ n => t ρ (fun ds n' => Fits ds.length ∧ E.nx (ρ.set k (some (.ml ds))) n') (fun x n' => E.ex x ρ n') n
theorem Stt.own_new {B : Base} {F : Addr → Prop} {H : Hp} {n : Nat} {σ : L2.St} {ρ : Env'} {k : Nat} {a : Addr} {vs : List V} {ds : List D} (s : Stt B F H n σ ρ) (ha : H a = none) (hl : HasL F H vs ds) : Stt B F (upd H a (.lst vs)) n (σ.set k (some (.ref a))) (ρ.set k (some (.ml ds))) ∧ Grow F H n F (upd H a (.lst vs)) n := by
  have g0 : Grow F H n (plusF F a) (upd H a (.lst vs)) n := .laid s.hs.pb ha .lst
  have g : Grow F H n F (upd H a (.lst vs)) n := ⟨g0.keep, fun _ f => f, fun _ f => .inl f, s.hs.pb.put (s.hs.pb.out ha) .lst, Nat.le_refl _⟩
  have hB : ∀ {b : Addr}, H b = none → B.H b = none := fun {b} h => by
    cases q : B.H b with
    | none => rfl
    | some o => exact absurd h (s.grow.keep b o q).some
  have hF : ¬ F a := fun f => by
    obtain ⟨o, e⟩ := s.hs.pb.dom a f
    rw [ha] at e
    cases e
  have s1 := s.mono g
  have nost : ∀ (j : Nat) (es : List D), ρ[j]? = some (some (.ml es)) → σ[j]? ≠ some (some (.ref a)) := fun j es f z => by
    obtain ⟨v, e1, b, ws, rfl, hb, _⟩ := s.hs.at_ j _ f
    rw [z] at e1
    cases e1
    rw [ha] at hb
    cases hb
  have key : ∀ (j : Nat) (es : List D) (b : Addr), (ρ.set k (some (.ml ds)))[j]? = some (some (.ml es)) → (σ.set k (some (V.ref a)))[j]? = some (some (.ref b)) → (k = j ∧ a = b) ∨ (k ≠ j ∧ ρ[j]? = some (some (.ml es)) ∧ σ[j]? = some (some (.ref b))) := fun j es b f1 f2 => by
    by_cases hj : k = j
    · subst hj
      by_cases hl : k < σ.length
      · rw [List.getElem?_set_self hl] at f2
        cases f2
        exact .inl ⟨rfl, rfl⟩
      · rw [List.getElem?_eq_none (by simp; omega)] at f2
        cases f2
    · rw [List.getElem?_set_ne hj] at f1 f2
      exact .inr ⟨hj, f1, f2⟩
  refine ⟨⟨s1.grow, s1.hs.set ⟨a, vs, rfl, upd_same, hl.mono g, hF⟩, fun j es b f1 f2 => ?_, fun j j2 es fs b hne f1 f2 f3 f4 => ?_⟩, g⟩
  · rcases key j es b f1 f2 with ⟨_, rfl⟩ | ⟨_, h1, h2⟩
    · exact hB ha
    · exact s.own j es b h1 h2
  · rcases key j es b f1 f3 with ⟨h1, rfl⟩ | ⟨h1, h2, h3⟩
    · rcases key j2 fs a f2 f4 with ⟨g1, _⟩ | ⟨g1, g2, g3⟩
      · exact hne (h1.symm.trans g1)
      · exact nost j2 fs g2 g3
    · rcases key j2 fs b f2 f4 with ⟨g1, rfl⟩ | ⟨g1, g2, g3⟩
      · exact nost j es h2 h3
      · exact s.sep j j2 es fs b hne h2 g2 h3 g3
theorem DS.own {k : Nat} {x : Str} {es : List Expr} {t : TD (List D)} {p2 pos pos' : Pos} (hN : ∀ i, (X i).N.Nodup) (hi : ∀ i, (X i).N[k]? = some x) (hx : ∀ i, Loc (X i).env.scope x) (h : DA X W es t)
    (hs : ∀ i, swapsWith (.List es p2) (some (.Name x pos')) pos.line (X i).env = pure false := by intro _; rfl)
    (hf : ∀ i, (X i).fn x = true ∨ (X i).env.scope.names.lookup x = some .local := by first | exact fun _ => .inl rfl | exact fun _ => .inr rfl) : DS X W (.Assign [.Name x pos'] (.List es p2) pos) (dOwn k t) := by
  obtain ⟨ta, p, r⟩ := h
  refine ⟨_, fun i => ps_set (i := k) (hN i) (hi i) (hx i) (pe_lst (p i)) (hs i) (hf i), fun B F H n σ ρ E D s h eo => ?_⟩
  refine r F H n σ ρ _ _ _ s.hs h (fun vs ds F' H' n' g hv hk => ⟨by rw [hv.len]; exact hk.1, fun a ha => ?_⟩) fun cls od xd F' H' n' g hx he => eo.ex cls od xd σ ρ F' H' n' (s.mono g) g.later hx he
  obtain ⟨s2, g2⟩ := (s.mono g).own_new (k := k) ha hv
  exact eo.nx _ _ F' _ n' s2 (g.later.trans g2.later) hk.2

/-! ### x.append(e), x a list of one's own -/
theorem ne_F {F : Addr → Prop} {a b : Addr} (nf : ¬ F a) (f : F b) : b ≠ a := fun e => nf (by rw [← e]; exact f)
mutual
theorem Has.out {F : Addr → Prop} {H : Hp} {a : Addr} {o : HO} (nf : ¬ F a) : ∀ {v : V} {d : D}, Has F H v d → Has F (upd H a o) v d
  | _, _, .non => .non
  | _, _, .bl b => .bl b
  | _, _, .int i => .int i
  | _, _, .str x => .str x
  | _, _, .tup f h l => .tup f ((upd_ne (ne_F nf f)).trans h) (HasL.out nf l)
  | _, _, .lst f h l => .lst f ((upd_ne (ne_F nf f)).trans h) (HasL.out nf l)
  | _, _, .dic f h q k l => .dic f ((upd_ne (ne_F nf f)).trans h) q k (HasL.out nf l)
  | _, _, .obj f h k l => .obj f ((upd_ne (ne_F nf f)).trans h) k (HasL.out nf l)
  | _, _, .pen f h ok fc hc hl => .pen f ((upd_ne (ne_F nf f)).trans h) ok fc ((upd_ne (ne_F nf fc)).trans hc) hl
  | _, _, .clo0 f h fc hc => .clo0 f ((upd_ne (ne_F nf f)).trans h) fc ((upd_ne (ne_F nf fc)).trans hc)
  | _, _, .clo1 f h fc hc hl hs l => .clo1 f ((upd_ne (ne_F nf f)).trans h) fc ((upd_ne (ne_F nf fc)).trans hc) hl (fun p hp => let ⟨a, u, o, r, dd, e⟩ := hs p hp; ⟨a, u, o, r, dd, (upd_ne (ne_F nf a)).trans e⟩) (HasL.out nf l)
  | _, _, .fnA a => .fnA a
  | _, _, .exc f h fd hd z l => .exc f ((upd_ne (ne_F nf f)).trans h) fd ((upd_ne (ne_F nf fd)).trans hd) z (HasL.out nf l)
  | _, _, .exc0 f h => .exc0 f ((upd_ne (ne_F nf f)).trans h)
  | _, _, .scr h ht => .scr (h.imp_left fun ⟨o, f, e⟩ => ⟨o, f, (upd_ne (ne_F nf f)).trans e⟩) fun P hP => let ⟨f, ps, e⟩ := ht P hP; ⟨f, ps, (upd_ne (ne_F nf f)).trans e⟩
theorem HasL.out {F : Addr → Prop} {H : Hp} {a : Addr} {o : HO} (nf : ¬ F a) : ∀ {vs : List V} {ds : List D}, HasL F H vs ds → HasL F (upd H a o) vs ds
  | _, _, .nil => .nil
  | _, _, .cons h l => .cons (Has.out nf h) (HasL.out nf l)
end
theorem HasL.snoc {F : Addr → Prop} {H : Hp} : ∀ {vs : List V} {ds : List D} {v : V} {d : D}, HasL F H vs ds → Has F H v d → HasL F H (vs ++ [v]) (ds ++ [d])
  | _, _, _, _, .nil, h => .cons h .nil
  | _, _, _, _, .cons h l, g => .cons h (HasL.snoc l g)
/-- a list of one's own gets other items -/
theorem Stt.own_put {B : Base} {F : Addr → Prop} {H : Hp} {n : Nat} {σ : L2.St} {ρ : Env'} {k : Nat} {a : Addr} {vs vs' : List V} {ds ds' : List D} (s : Stt B F H n σ ρ) (e : ρ[k]? = some (some (.ml ds))) (e1 : σ[k]? = some (some (.ref a))) (ha : H a = some (.lst vs)) (nf : ¬ F a) (hl : HasL F H vs' ds') :
    Stt B F (upd H a (.lst vs')) n σ (ρ.set k (some (.ml ds'))) ∧ Later F H n F (upd H a (.lst vs')) n := by
  have hB : B.H a = none := s.own k ds a e e1
  have l : Later F H n F (upd H a (.lst vs')) n := ⟨fun b o f h => .inl ((upd_ne (ne_F nf f)).trans h), fun b f => f, Nat.le_refl _⟩
  have pb : PenB F (upd H a (.lst vs')) n := s.hs.pb.put nf .lst
  have key : ∀ (j : Nat) (es : List D), (ρ.set k (some (.ml ds')))[j]? = some (some (.ml es)) → (k = j ∨ (k ≠ j ∧ ρ[j]? = some (some (.ml es)))) := fun j es f => by
    by_cases hj : k = j
    · exact .inl hj
    · rw [List.getElem?_set_ne hj] at f
      exact .inr ⟨hj, f⟩
  refine ⟨⟨⟨fun b o h => ?_, s.grow.sub, s.grow.new, pb, s.grow.le⟩, ⟨pb, by simp [s.hs.len], fun j y ej => ?_⟩, fun j es b f1 f2 => ?_, fun j j2 es fs b hne f1 f2 f3 f4 => ?_⟩, l⟩
  · have hb : b ≠ a := fun e => by rw [e, hB] at h; cases h
    rw [upd_ne hb]
    exact s.grow.keep b o h
  · by_cases hj : k = j
    · subst hj
      rw [List.getElem?_set_self (List.getElem?_eq_some_iff.mp e).1] at ej
      have ej := Option.some.inj (Option.some.inj ej)
      subst ej
      exact ⟨_, e1, a, vs', rfl, upd_same, hl.out nf, nf⟩
    · rw [List.getElem?_set_ne hj] at ej
      obtain ⟨w, w1, w2⟩ := s.hs.at_ j y ej
      refine ⟨w, w1, ?_⟩
      cases y with
      | d x => exact Has.out nf w2
      | ml es =>
        obtain ⟨b, ws, rfl, hb, hl2, nf2⟩ := w2
        have hba : b ≠ a := fun q => s.sep k j ds es a hj e ej e1 (q ▸ w1)
        exact ⟨b, ws, rfl, (upd_ne hba).trans hb, hl2.out nf, nf2⟩
  · rcases key j es f1 with rfl | ⟨_, g⟩
    · exact s.own k ds b e f2
    · exact s.own j es b g f2
  · rcases key j es f1 with rfl | ⟨h1, g1⟩
    · rcases key j2 fs f2 with rfl | ⟨h2, g2⟩
      · exact hne rfl
      · exact s.sep k j2 ds fs b hne e g2 f3 f4
    · rcases key j2 fs f2 with rfl | ⟨h2, g2⟩
      · exact s.sep j k es ds b hne g1 e f3 f4
      · exact s.sep j j2 es fs b hne g1 g2 f3 f4
def dAppend (k : Nat) (t : TD D) : TDS := fun E ρ n => match ρ[k]? with
  | some (some (.ml ds)) => onE t (fun d ρ n => ds.length < sizeLine ∧ E.nx (ρ.set k (some (.ml (ds ++ [d])))) n) E ρ n
  | _ => False
theorem DS.append {k : Nat} {o e : Expr} {t : TD D} {p1 p2 pos : Pos} {K : PySem.W.Frag} (hK : ∀ i, (X i).K = K) (ho : ∀ i, PE (X i) o (tVar k)) (h : DE X W e t)
    (hp : ∀ i ta, PA (X i) [e] ta → PE (X i) (.Call (.Attribute o "append" p1) [e] [] p2) (tBM (X i).K "list" rAppend (tVar k) ta))
    (hst : ∀ i, starEach [e] (X i).env = (false, eval e (X i).env) :: starEach [] (X i).env := by intro _; rfl) (hs : ∀ i, swapsWith (.Call (.Attribute o "append" p1) [e] [] p2) none pos.line (X i).env = pure false := by intro _; rfl) :
    DS X W (.Expr (.Call (.Attribute o "append" p1) [e] [] p2) pos) (dAppend k t) := by
  obtain ⟨te, p, r⟩ := h
  refine ⟨tDrop (tBM K "list" rAppend (tVar k) (tCons te tNil)), fun i => by rw [← hK i]; exact ps_expr (hp i _ (pa_cons (p i) pa_nil (hst i))) (hs i), fun B F H n σ ρ E Z s h eo => ?_⟩
  have h : (match ρ[k]? with
    | some (some (.ml ds)) => onE t (fun d ρ n => ds.length < sizeLine ∧ E.nx (ρ.set k (some (.ml (ds ++ [d])))) n) E ρ n
    | _ => False) := h
  match e : ρ[k]? with
  | some (some (.d _)) => rw [e] at h; exact h.elim
  | some none => rw [e] at h; exact h.elim
  | none => rw [e] at h; exact h.elim
  | some (some (.ml ds)) =>
    rw [e] at h
    obtain ⟨v, e1, a, vs, rfl, ha, hl, nf⟩ := s.hs.at_ k _ e
    refine ⟨.ref a, e1, .inl ⟨rfl, _, .of ha⟩, ?_⟩
    refine r.on s h eo fun w d F' H' n' s' g hw hk eo' => ?_
    obtain ⟨v', e1', a', vs', ev, ha', hl', nf'⟩ := s'.hs.at_ k _ e
    rw [e1] at e1'
    cases e1'
    cases ev
    refine ⟨a, vs', w, rfl, rfl, ha', by rw [hl'.len]; exact hk.1, ?_⟩
    obtain ⟨s2, l2⟩ := s'.own_put e e1 ha' nf' (hl'.snoc hw)
    exact eo'.nx σ _ F' _ n' s2 l2 hk.2
end
end DL


set_option maxRecDepth 100000
set_option maxHeartbeats 2000000
/-! DL3: loops, comprehensions, functions by data. Own work. -/
namespace DL
open PySem PySem.Spec PyProof.Rows L2

/-! ### what is walked -/
structure Yld (J : It) (F : Addr → Prop) (H : Hp) (n : Nat) (ds : List D) : Prop where
  stop : ∀ i F' H' n', Later F H n F' H' n' → ds.length ≤ i → J.stop i H'
  go : ∀ i d F' H' n', Later F H n F' H' n' → PenB F' H' n' → ds[i]? = some d → J.go i H' ∧ ∀ x H'', J.yld i H' x H'' → ∃ F'', Grow F' H' n' F'' H'' n' ∧ Has F'' H'' x d
def RunI (W : WX) (wi : TI) (t : TD (List D)) : Prop := ∀ (F : Addr → Prop) (H : Hp) (n : Nat) (σ : L2.St) (ρ : Env') (K : List D → Nat → Prop) (X : XD → Nat → Prop) (R : It → Hp → Prop), HasS F H n σ ρ → t ρ K X n →
  (∀ J ds F' H' n', Grow F H n F' H' n' → Yld J F' H' n' ds → K ds n' → R J H') →
  (∀ cls od xd F' H' n', Grow F H n F' H' n' → HasX F' H' cls od xd → X xd n' → W cls od σ H') → wi σ H R
structure DI {ι : Type} (X : ι → Cx) (W : WX) (tg iter : Expr) (t : TD (List D)) : Prop where
  ex : ∃ wi, (∀ i, PI (X i) tg iter wi) ∧ RunI W wi t
theorem HasL.get {F : Addr → Prop} {H : Hp} : ∀ {vs : List V} {ds : List D} {i : Nat} {d : D}, HasL F H vs ds → ds[i]? = some d → ∃ v, vs[i]? = some v ∧ Has F H v d
  | _, _, _, _, .nil, e => by simp at e
  | _, _, 0, _, .cons h _, e => by simp at e; subst e; exact ⟨_, rfl, h⟩
  | _, _, i + 1, _, .cons _ l, e => by
    obtain ⟨v, h1, h2⟩ := HasL.get (i := i) l (by simpa using e)
    exact ⟨v, by simpa using h1, h2⟩
section
variable {X : Cx} {tg : Expr}
/-- a list or a tuple -/
def iSeq (tl : TE) : TI := fun σ H R => tl σ H fun x H1 => ∃ a xs, x = .ref a ∧ ((H1 a = some (.lst xs) ∧ R (Itl X.K a) H1) ∨ (H1 a = some (.tup xs) ∧ R (Itt X.K a) H1))
theorem pi_seq {l : Expr} {tl : TE} (hl : PE X l tl) : PI X tg l (iSeq (X := X) tl) := by
  refine ⟨fun pins s σ H R I h => ?_⟩
  refine thn (hl.run pins s σ H _ I h) fun v s1 ⟨x, H1, I1, r1, q1⟩ => ?_
  obtain ⟨a, xs, e, q⟩ := q1
  subst e
  cases r1
  have fp : ∀ b ∈ [s1.heap.objs.size], FpOk X pins H1 b := fun b hb => by
    have e : b = s1.heap.objs.size := by simpa using hb
    subst e
    exact I1.fpOk (Nat.le_refl _) (I1.hok.fresh (Nat.le_refl _))
  rcases q with ⟨ha, q⟩ | ⟨ha, q⟩
  · obtain ⟨its, rv, p, hz⟩ := I1.list (.of ha)
    refine wpAny_pyIter_list p.isList ?_
    exact ⟨s1.heap.objs.size, [s1.heap.objs.size], _, _, H1, rfl, I1.kept (t' := s1.toks) fun b o e => Heap.get?_push_of_some _ e, turn_list a _, ⟨_, Heap.get?_push_size _ rfl, rfl, rfl⟩, fp, q⟩
  · obtain ⟨its, rv, p, hz⟩ := I1.tuple (.of ha)
    refine wpAny_pyIter_tuple (show s1.heap.IsTuple a its.toArray from p) ?_
    exact ⟨s1.heap.objs.size, [s1.heap.objs.size], _, _, H1, rfl, I1.kept (t' := s1.toks) fun b o e => Heap.get?_push_of_some _ e, turn_tuple a _, ⟨_, Heap.get?_push_size _ rfl, rfl, rfl⟩, fp, q⟩
end
section
variable {ι : Type} {X : ι → Cx} {W : WX}
theorem yld_list {K : PySem.W.Frag} {F : Addr → Prop} {H : Hp} {n : Nat} {a : Addr} {vs : List V} {ds : List D} (f : F a) (ha : H a = some (.lst vs)) (hl : HasL F H vs ds) : Yld (Itl K a) F H n ds where
  stop := fun i F' H' n' l hi => ⟨vs, .of (l.keepL f ha .lst), by rw [hl.len]; exact hi⟩
  go := fun i d F' H' n' l pb e => by
    have ha' := l.keepL f ha .lst
    obtain ⟨v, e1, hv⟩ := (hl.later l).get e
    refine ⟨⟨vs, v, .of ha', e1⟩, fun x H'' y => ?_⟩
    obtain ⟨rfl, y⟩ := y
    have e2 := y vs (.of ha')
    rw [e1] at e2
    cases e2
    exact ⟨F', .refl pb, hv⟩
theorem yld_tup {K : PySem.W.Frag} {F : Addr → Prop} {H : Hp} {n : Nat} {a : Addr} {vs : List V} {ds : List D} (f : F a) (ha : H a = some (.tup vs)) (hl : HasL F H vs ds) : Yld (Itt K a) F H n ds where
  stop := fun i F' H' n' l hi => ⟨vs, .of (l.keepL f ha .tup), by rw [hl.len]; exact hi⟩
  go := fun i d F' H' n' l pb e => by
    have ha' := l.keepL f ha .tup
    obtain ⟨v, e1, hv⟩ := (hl.later l).get e
    refine ⟨⟨vs, v, .of ha', e1⟩, fun x H'' y => ?_⟩
    obtain ⟨rfl, y⟩ := y
    have e2 := y vs (.of ha')
    rw [e1] at e2
    cases e2
    exact ⟨F', .refl pb, hv⟩
theorem yld_scr {K : PySem.W.Frag} {F : Addr → Prop} {H : Hp} {n : Nat} {a : Addr} {ns : List Int} (h : (∃ o, F a ∧ H a = some (.frz o (.lst (ns.map V.int)))) ∨ ∀ H' : Hp, SqL K H' a (ns.map V.int)) : Yld (Itl K a) F H n (ns.map D.int) where
  stop := fun i F' H' n' l hi => ⟨ns.map V.int, h.elim (fun ⟨o, f, e⟩ => .inl (.inr ⟨o, l.keepL f e .frz⟩)) (fun k => k H'), by simpa using hi⟩
  go := fun i d F' H' n' l pb e => by
    have hs : SqL K H' a (ns.map V.int) := h.elim (fun ⟨o, f, e⟩ => .inl (.inr ⟨o, l.keepL f e .frz⟩)) (fun k => k H')
    rw [List.getElem?_map] at e
    obtain ⟨z, e1, e2⟩ := Option.map_eq_some_iff.mp e
    subst e2
    have e3 : (ns.map V.int)[i]? = some (.int z) := by rw [List.getElem?_map, e1]; rfl
    refine ⟨⟨ns.map V.int, _, hs, e3⟩, fun x H'' y => ?_⟩
    obtain ⟨rfl, y⟩ := y
    have e4 := y _ hs
    rw [e3] at e4
    cases e4
    exact ⟨F', .refl pb, .int _⟩
/-- the items of a list or tuple -/
def itemsOf : D → Wm (List D)
  | .lst ds => pure ds
  | .tup ds => pure ds
  | _ => Wm.fail
theorem DI.scr {tg l : Expr} {t : TD D} {K : PySem.W.Frag} (hK : ∀ i, (X i).K = K) (h : DE X W l t) : DI X W tg l (fun ρ => do match ← t ρ with | .scr K' ns _ => do Wm.need (K' = K); pure (ns.map D.int) | _ => Wm.fail) := by
  obtain ⟨te, p, r⟩ := h
  refine ⟨iList K te, fun i => by rw [← hK i]; exact pi_list (p i), fun F H n σ ρ Kd Kx R hs ht hq hx => ?_⟩
  refine r F H n σ ρ _ Kx _ hs ht (fun v d F1 H1 n1 g1 hv ht1 => ?_) hx
  cases hv with
  | @scr a K' ns tabs h _ =>
    obtain ⟨rfl, hk⟩ := ht1
    exact ⟨a, rfl, ⟨ns.map V.int, h.elim (fun ⟨o, f, e⟩ => .inl (.inr ⟨o, e⟩)) (fun k => k H1)⟩, hq _ _ F1 H1 n1 g1 (yld_scr h) hk⟩
  | _ => exact ht1.elim
theorem DI.seq {tg l : Expr} {t : TD D} {K : PySem.W.Frag} (hK : ∀ i, (X i).K = K) (h : DE X W l t) : DI X W tg l (fun ρ => do itemsOf (← t ρ)) := by
  obtain ⟨te, p, r⟩ := h
  refine ⟨fun σ H R => te σ H fun x H1 => ∃ a xs, x = .ref a ∧ ((H1 a = some (.lst xs) ∧ R (Itl K a) H1) ∨ (H1 a = some (.tup xs) ∧ R (Itt K a) H1)), fun i => by rw [← hK i]; exact pi_seq (p i), fun F H n σ ρ Kd Kx R hs ht hq hx => ?_⟩
  refine r F H n σ ρ _ Kx _ hs ht (fun v d F1 H1 n1 g1 hv ht1 => ?_) hx
  cases hv with
  | @lst a vs ds f ha hl => exact ⟨a, vs, rfl, .inl ⟨ha, hq _ ds F1 H1 n1 g1 (yld_list f ha hl) ht1⟩⟩
  | @tup a vs ds f ha hl => exact ⟨a, vs, rfl, .inr ⟨ha, hq _ ds F1 H1 n1 g1 (yld_tup f ha hl) ht1⟩⟩
  | _ => exact ht1.elim
def rangeD (lo : Int) (k : Nat) : List D := (List.range k).map fun (j : Nat) => .int (lo + j)
theorem yld_range {F : Addr → Prop} {H : Hp} {n : Nat} {lo : Int} {k : Nat} : Yld (Itr lo k) F H n (rangeD lo k) where
  stop := fun i F' H' n' l hi => by
    have : k ≤ i := by simpa [rangeD] using hi
    exact this
  go := fun i d F' H' n' l pb e => by
    unfold rangeD at e
    rw [List.getElem?_map] at e
    obtain ⟨j, e1, e2⟩ := Option.map_eq_some_iff.mp e
    have hj : i < k ∧ j = i := by
      obtain ⟨h1, h2⟩ := List.getElem?_eq_some_iff.mp e1
      simp at h1 h2
      exact ⟨h1, h2.symm⟩
    obtain ⟨hk, rfl⟩ := hj
    refine ⟨hk, fun x H'' y => ?_⟩
    obtain ⟨rfl, rfl⟩ := y
    subst e2
    exact ⟨F', .refl pb, .int _⟩
/-- range's bounds -/
def Small62 (i : Int) : Prop := -(2 ^ 62) ≤ i ∧ i < 2 ^ 62
def rangeOf : List D → Wm (List D)
  | [.int j] => do Wm.need (Small62 j); pure (rangeD 0 j.toNat)
  | _ => Wm.fail
def rangeOf2 : List D → Wm (List D)
  | [.int i, .int j] => do Wm.need (Small62 i ∧ Small62 j); pure (rangeD i (j - i).toNat)
  | _ => Wm.fail
theorem DI.range1 {tg a : Expr} {t : TD (List D)} {p pos : Pos} (hg : ∀ i, Gl (X i) "range") (hm : ∀ i, (X i).mg "range" = none) (h : DA X W [a] t) (hs : ∀ i, starEach [a] (X i).env = [(false, eval a (X i).env)] := by intro _; rfl) :
    DI X W tg (.Call (.Name "range" p) [a] [] pos) (fun ρ => do rangeOf (← t ρ)) := by
  obtain ⟨ta, pa, r⟩ := h
  refine ⟨_, fun i => pi_range1 (hg i) (hm i) (pa i) (hs i), fun F H n σ ρ Kd Kx R hs ht hq hx => ?_⟩
  refine r F H n σ ρ _ Kx _ hs ht (fun vs ds F1 H1 n1 g1 hv ht1 => ?_) hx
  cases hv with
  | nil => exact ht1.elim
  | cons h1 h2 =>
    cases h2 with
    | nil =>
      cases h1 with
      | int j => exact ⟨j, rfl, ht1.1.1, ht1.1.2, hq _ _ F1 H1 n1 g1 yld_range ht1.2⟩
      | _ => exact ht1.elim
    | cons h2 h3 => cases h1 <;> exact ht1.elim
theorem DI.range2 {tg a b : Expr} {t : TD (List D)} {p pos : Pos} (hg : ∀ i, Gl (X i) "range") (hm : ∀ i, (X i).mg "range" = none) (h : DA X W [a, b] t) (hs : ∀ i, starEach [a, b] (X i).env = [(false, eval a (X i).env), (false, eval b (X i).env)] := by intro _; rfl)
    (hs2 : ∀ i, starEach [b] (X i).env = [(false, eval b (X i).env)] := by intro _; rfl) :
    DI X W tg (.Call (.Name "range" p) [a, b] [] pos) (fun ρ => do rangeOf2 (← t ρ)) := by
  obtain ⟨ta, pa, r⟩ := h
  refine ⟨_, fun i => pi_range2 (hg i) (hm i) (pa i) (hs i) (hs2 i), fun F H n σ ρ Kd Kx R hs ht hq hx => ?_⟩
  refine r F H n σ ρ _ Kx _ hs ht (fun vs ds F1 H1 n1 g1 hv ht1 => ?_) hx
  cases hv with
  | nil => exact ht1.elim
  | cons h1 h2 =>
    cases h2 with
    | nil => cases h1 <;> exact ht1.elim
    | cons h2 h3 =>
      cases h3 with
      | nil =>
        cases h1 <;> cases h2 <;> first | exact ht1.elim | skip
        rename_i i j
        exact ⟨i, j, rfl, ⟨ht1.1.1.1, ht1.1.1.2, ht1.1.2.1, ht1.1.2.2⟩, hq _ _ F1 H1 n1 g1 yld_range ht1.2⟩
      | cons h4 h5 => cases h1 <;> cases h2 <;> exact ht1.elim

/-! ### for -/
def forD (g : TDG) (tb : TDS) : List D → TDS
  | [], E, ρ, n => E.nx ρ n
  | d :: ds, E, ρ, n => match g d ρ with
    | some ρ' => tb { E with nx := fun ρ'' n'' => forD g tb ds E ρ'' n'', ct := fun ρ'' n'' => forD g tb ds E ρ'' n'', bk := E.nx } ρ' n
    | none => False
def dFor (ti : TD (List D)) (g : TDG) (tb : TDS) : TDS := fun E ρ n => ti ρ (fun ds n' => forD g tb ds E ρ n') (fun x n' => E.ex x ρ n') n
theorem DS.for {tg iter : Expr} {body : List Stmt} {ti : TD (List D)} {g : TDG} {us : List Nat} {tb : TDS} {pos : Pos} (hp : ∀ i, PassesOwn (model (X i).prog (X i).w) (X i).A (X i).env (X i).xe) (hc : ∀ i, (X i).calm = true) (hi : DI X W tg iter ti) (hg : DG X tg g us) (hb : DSs X W body tb)
    (hs : ∀ i x, foldedSetIterable iter (X i).env x = pure x := by intro _ _; rfl) : DS X W (.For tg iter body [] pos) (dFor ti g tb) := by
  obtain ⟨wi, pi, ri⟩ := hi
  obtain ⟨tgk, pg, rg⟩ := hg
  obtain ⟨ts, pb, rb⟩ := hb
  refine ⟨_, fun i => ps_for (hp i) (hc i) (pi i) (pg i) (pb i) (hs i), fun B F H n σ ρ E Z s h eo => ?_⟩
  refine ri F H n σ ρ _ _ _ s.hs h (fun J ds F1 H1 n1 g1 y hk => ?_) fun cls od xd F' H' n' g hx he => eo.ex cls od xd σ ρ F' H' n' (s.mono g) g.later hx he
  refine ⟨fun i m σ H => m = ds.length - i ∧ i ≤ ds.length ∧ ∃ F n ρ, Stt B F H n σ ρ ∧ Later F1 H1 n1 F H n ∧ forD g tb (ds.drop i) E ρ n, ⟨ds.length, by simp, Nat.zero_le _, F1, n1, ρ, s.mono g1, .refl, hk⟩, ?_⟩
  rintro i m σ2 H2 ⟨rfl, hle, F2, n2, ρ2, s2, l2, h2⟩
  by_cases hlt : i < ds.length
  · have ei : ds[i]? = some ds[i] := List.getElem?_eq_getElem hlt
    obtain ⟨go, yy⟩ := y.go i ds[i] F2 H2 n2 l2 s2.hs.pb ei
    have ed : ds.drop i = ds[i] :: ds.drop (i + 1) := List.drop_eq_getElem_cons hlt
    rw [ed] at h2
    have h2 : (match g ds[i] ρ2 with
      | some ρ' => tb { E with nx := fun ρ'' n'' => forD g tb (ds.drop (i + 1)) E ρ'' n'', ct := fun ρ'' n'' => forD g tb (ds.drop (i + 1)) E ρ'' n'', bk := E.nx } ρ' n2
      | none => False) := h2
    refine .inr ⟨go, fun σ3 H3 => ∃ F n ρ, Stt B F H3 n σ3 ρ ∧ Later F1 H1 n1 F H3 n ∧ forD g tb (ds.drop (i + 1)) E ρ n, fun σ3 H3 ⟨F3, n3, ρ3, s3, l3, h3⟩ => ⟨ds.length - (i + 1), by omega, rfl, hlt, F3, n3, ρ3, s3, l3, h3⟩, fun x H'' hy => ?_⟩
    obtain ⟨F'', g2, hx⟩ := yy x H'' hy
    cases q : g ds[i] ρ2 with
    | none => rw [q] at h2; exact h2.elim
    | some ρ' =>
      rw [q] at h2
      refine rg F'' H'' n2 σ2 ρ2 ρ' x ds[i] _ (s2.mono g2).hs hx q fun σ' s'' o => ?_
      have s' := (s2.mono g2).only s'' o
      have la : Later F1 H1 n1 F'' H'' n2 := l2.trans g2.later
      refine rb B F'' H'' n2 σ' ρ' _ _ s' h2 ⟨fun σ4 ρ4 F4 H4 n4 s4 l4 h4 => ⟨F4, n4, ρ4, s4, la.trans l4, h4⟩, fun σ4 ρ4 F4 H4 n4 s4 l4 h4 => eo.nx σ4 ρ4 F4 H4 n4 s4 (g1.later.trans (la.trans l4)) h4,
        fun σ4 ρ4 F4 H4 n4 s4 l4 h4 => ⟨F4, n4, ρ4, s4, la.trans l4, h4⟩, eo.rt, fun cls od xd σ4 ρ4 F4 H4 n4 s4 l4 hx he => eo.ex cls od xd σ4 ρ4 F4 H4 n4 s4 (g1.later.trans (la.trans l4)) hx he⟩
  · have e : i = ds.length := by omega
    subst e
    rw [List.drop_length] at h2
    exact .inl ⟨y.stop _ F2 H2 n2 l2 (Nat.le_refl _), eo.nx σ2 ρ2 F2 H2 n2 s2 (g1.later.trans l2) h2⟩

/-! ### while -/
def whileD (c : TD Bool) (tb : TDS) : Nat → TDS
  | 0, _, _, _ => False
  | k + 1, E, ρ, n => onT c (fun b ρ' n' => if b = true then tb { E with nx := fun ρ'' n'' => whileD c tb k E ρ'' n'', ct := fun ρ'' n'' => whileD c tb k E ρ'' n'', bk := E.nx } ρ' n' else E.nx ρ' n') E ρ n
def dWhile (c : TD Bool) (tb : TDS) : TDS := fun E ρ n => ∃ k, whileD c tb k E ρ n
theorem DS.while {c : Expr} {body : List Stmt} {tc : TD Bool} {tb : TDS} {pos : Pos} (hp : ∀ i, PassesOwn (model (X i).prog (X i).w) (X i).A (X i).env (X i).xe) (hc : DT X W c tc) (hb : DSs X W body tb) : DS X W (.While c body [] pos) (dWhile tc tb) := by
  obtain ⟨tt, pt, rt⟩ := hc
  obtain ⟨ts, pb, rb⟩ := hb
  refine ⟨_, fun i => ps_while (hp i) (pt i) (pb i), fun B F H n σ ρ E Z s h eo => ?_⟩
  obtain ⟨k, h⟩ := h
  refine ⟨fun m σ H' => ∃ F' n' ρ, Stt B F' H' n' σ ρ ∧ Later F H n F' H' n' ∧ whileD tc tb m E ρ n', ⟨k, F, n, ρ, s, .refl, h⟩, ?_⟩
  rintro m σ2 H2 ⟨F2, n2, ρ2, s2, l2, h2⟩
  cases m with
  | zero => exact h2.elim
  | succ m =>
    have h2 : onT tc (fun b ρ' n' => if b = true then tb { E with nx := fun ρ'' n'' => whileD tc tb m E ρ'' n'', ct := fun ρ'' n'' => whileD tc tb m E ρ'' n'', bk := E.nx } ρ' n' else E.nx ρ' n') E ρ2 n2 := h2
    refine rt.on s2 h2 (eo.later l2) fun b F3 H3 n3 s3 g3 hk eo3 => ?_
    cases b with
    | false => exact iteF (eo3.nx σ2 ρ2 F3 H3 n3 s3 .refl (by simpa using hk))
    | true =>
      have la : Later F H n F3 H3 n3 := l2.trans g3.later
      rw [if_pos rfl] at hk
      refine iteT ⟨fun σ4 H4 => ∃ F4 n4 ρ4, Stt B F4 H4 n4 σ4 ρ4 ∧ Later F H n F4 H4 n4 ∧ whileD tc tb m E ρ4 n4, fun σ4 H4 h4 => ⟨m, Nat.lt_succ_self m, h4⟩, ?_⟩
      exact rb B F3 H3 n3 σ2 ρ2 _ _ s3 hk ⟨fun σ4 ρ4 F4 H4 n4 s4 l4 h4 => ⟨F4, n4, ρ4, s4, la.trans l4, h4⟩, fun σ4 ρ4 F4 H4 n4 s4 l4 h4 => eo3.nx σ4 ρ4 F4 H4 n4 s4 l4 h4,
        fun σ4 ρ4 F4 H4 n4 s4 l4 h4 => ⟨F4, n4, ρ4, s4, la.trans l4, h4⟩, eo.rt, fun cls od xd σ4 ρ4 F4 H4 n4 s4 l4 hx he => eo3.ex cls od xd σ4 ρ4 F4 H4 n4 s4 l4 hx he⟩
end

/-! ### a def by its body -/
/-- what a body gives for data -/
def bodyW (t : TDS) (N : Nat) (ds : List D) : Wm D := fun K X n => t { nx := fun _ n' => K .non n', rt := K, bk := fun _ _ => False, ct := fun _ _ => False, ex := fun x _ n' => X x n' } (ds.map (fun d => some (.d d)) ++ List.replicate (N - ds.length) none) n
theorem start_hasS {F : Addr → Prop} {H : Hp} {n : Nat} {vs : List V} {ds : List D} {N : List Str} (pb : PenB F H n) (h : HasL F H vs ds) : HasS F H n (L2.start N vs) (ds.map (fun d => some (.d d)) ++ List.replicate (N.length - ds.length) none) := by
  refine ⟨pb, by simp [L2.start, h.len], fun i x e => ?_⟩
  unfold L2.start
  by_cases hi : i < ds.length
  · rw [List.getElem?_append_left (by simpa using hi), List.getElem?_map] at e
    obtain ⟨d, e1, e2⟩ := Option.map_eq_some_iff.mp e
    cases e2
    obtain ⟨v, e3, hv⟩ := h.get e1
    refine ⟨v, ?_, hv⟩
    rw [List.getElem?_append_left (by simpa [h.len] using hi), List.getElem?_map, e3]
    rfl
  · rw [List.getElem?_append_right (by simpa using Nat.le_of_not_lt hi), List.getElem?_replicate] at e
    split at e <;> cases e
theorem start_noml {ds : List D} {N i : Nat} {es : List D} : (ds.map (fun d => some (SV.d d)) ++ List.replicate (N - ds.length) none)[i]? ≠ some (some (.ml es)) := by
  intro e
  by_cases hi : i < ds.length
  · rw [List.getElem?_append_left (by simpa using hi), List.getElem?_map] at e
    obtain ⟨d, e1, e2⟩ := Option.map_eq_some_iff.mp e
    cases e2
  · rw [List.getElem?_append_right (by simpa using Nat.le_of_not_lt hi), List.getElem?_replicate] at e
    split at e <;> cases e
/-- the context of a def's body -/
abbrev bCx (P : Program) (w : World) (K : PySem.W.Frag) (mg : Str → Option Value) (base : Heap) (N : List Str) (qual : Str) (st : Stmt) (f : Addr) (cdv : Value) (A : Around) (outer : List Env) (s : Shared) (H : Hp) (E : XK) : Unit → Cx :=
  fun _ => cxOf (L2.CX P w) P w K mg base N qual (defScope st) f cdv A outer s H E
abbrev bW (E : XK) : WX := fun cls d _ H => E cls d H
theorem fn_ok {P : Program} {w : World} {K : PySem.W.Frag} {mg : Str → Option Value} {base : Heap} {x qual : Str} {st : Stmt} {f : Addr} {fd : FuncData} {N ps : List Str} {k : Nat} {t : TDS} {w' : List D → Wm D} (F : Fun K x qual st f fd) (S : FnScope N ps (defScope st))
    (hbody : ∀ (cdv : Value) (A : Around) (outer : List Env) (s : Shared) (H : Hp) (E : XK), A.guards = some [] → Room k (A.deeper (envOfC qual (defScope st) s.heap.objs.size f cdv)) → DSs (bCx P w K mg base N qual st f cdv A outer s H E) (bW E) (defBody st) t)
    (hw : ∀ ds Kd Kx n, ds.length = ps.length → w' ds Kd Kx n → bodyW t N.length ds Kd Kx n) : FnG P w K mg base (k + 1) f fd ps (spD ps.length w') := by
  refine FnG.of F S (fun vs H Q E h => h.1) fun cdv _ A outer s H vs Q E hg hr h => ?_
  obtain ⟨hl, F0, n, ds, Kd, Kx, pb, hv, hw', hq, hx⟩ := h
  obtain ⟨ts, p, r⟩ := hbody cdv A outer s H E hg hr
  refine ⟨ts, p (), ?_⟩
  have hd : ds.length = ps.length := by rw [← hv.len]; exact hl
  have h0 := hw ds Kd Kx n hd hw'
  refine r ⟨F0, H, n⟩ F0 H n _ _ _ _ ⟨.refl pb, start_hasS pb hv, fun i es a e => absurd e start_noml, fun i j es fs a _ e => absurd e start_noml⟩ h0 ⟨fun σ' ρ' F' H' n' s' l hn => hq .non .non F' H' n' s'.grow .non hn, fun _ _ _ _ _ _ _ z => z.elim, fun _ _ _ _ _ _ _ z => z.elim,
    fun v d F' H' n' g hv' hk => hq v d F' H' n' g hv' hk, fun cls od xd σ' ρ' F' H' n' s' l hx' he => hx cls od xd F' H' n' s'.grow hx' he⟩

/-- the same, where the cells' places are told -/
theorem fn_okL {P : Program} {w : World} {K : PySem.W.Frag} {mg : Str → Option Value} {base : Heap} {x qual : Str} {st : Stmt} {f : Addr} {fd : FuncData} {N ps : List Str} {k : Nat} {t : Nat → TDS} {w' : List D → Wm D} (F : Fun K x qual st f fd) (S : FnScope N ps (defScope st))
    (hbody : ∀ (cdv : Value), fd.code = cdv → ∀ (A : Around) (outer : List Env) (s : Shared) (H : Hp) (E : XK) (L : Nat), s.heap.objs.size = L → A.guards = some [] → Room k (A.deeper (envOfC qual (defScope st) s.heap.objs.size f cdv)) → DSs (bCx P w K mg base N qual st f cdv A outer s H E) (bW E) (defBody st) (t L))
    (hw : ∀ L ds Kd Kx n, ds.length = ps.length → w' ds Kd Kx n → bodyW (t L) N.length ds Kd Kx n) : FnG P w K mg base (k + 1) f fd ps (spD ps.length w') := by
  refine FnG.of F S (fun vs H Q E h => h.1) fun cdv hcd A outer s H vs Q E hg hr h => ?_
  obtain ⟨hl, F0, n, ds, Kd, Kx, pb, hv, hw', hq, hx⟩ := h
  obtain ⟨ts, p, r⟩ := hbody cdv hcd A outer s H E _ rfl hg hr
  refine ⟨ts, p (), ?_⟩
  have hd : ds.length = ps.length := by rw [← hv.len]; exact hl
  have h0 := hw s.heap.objs.size ds Kd Kx n hd hw'
  refine r ⟨F0, H, n⟩ F0 H n _ _ _ _ ⟨.refl pb, start_hasS pb hv, fun i es a e => absurd e start_noml, fun i j es fs a _ e => absurd e start_noml⟩ h0 ⟨fun σ' ρ' F' H' n' s' l hn => hq .non .non F' H' n' s'.grow .non hn, fun _ _ _ _ _ _ _ z => z.elim, fun _ _ _ _ _ _ _ z => z.elim,
    fun v d F' H' n' g hv' hk => hq v d F' H' n' g hv' hk, fun cls od xd σ' ρ' F' H' n' s' l hx' he => hx cls od xd F' H' n' s'.grow hx' he⟩

/-! ### comprehensions -/
section
variable {ι : Type} {X : ι → Cx} {W : WX}
/-- the block's contexts -/
abbrev blkX (X : ι → Cx) (scope : Scope) : ι × Shared × Hp × Addr × List (Str × Addr) × List Addr → Cx := fun p => (X p.1).blk p.2.1 p.2.2.1 scope (compEnvC scope p.2.2.2.2.1 p.2.2.2.1 (X p.1).env) p.2.2.2.2.2
/-- no exception leaves it -/
abbrev W0 : WX := fun _ _ _ _ => False
def wipeD (ρ : Env') : List Nat → Env'
  | [] => ρ
  | v :: vs => (wipeD ρ vs).set v none
/-- turn by turn -/
def lcD (g : TDG) (tt : TD Bool) (te : TD D) : List D → Env' → List D → Wm (List D)
  | [], _, acc => pure acc
  | d :: ds, ρ, acc => match g d ρ with
    | some ρ' => do if ← calm (tt ρ') then (do let y ← calm (te ρ'); Wm.need (acc.length < sizeLine); lcD g tt te ds ρ (acc ++ [y])) else lcD g tt te ds ρ acc
    | none => Wm.fail
def dLc (ti : TD (List D)) (g : TDG) (tt : TD Bool) (te : TD D) (vs : List Nat) : TD D := fun ρ => do let ds ← ti ρ; let ys ← lcD g tt te ds (wipeD ρ vs) []; pure (.lst ys)

theorem wipe_get {σ : L2.St} {vs : List Nat} {i : Nat} : (wipe σ vs)[i]? = if i ∈ vs ∧ i < σ.length then some none else σ[i]? := by
  induction vs with
  | nil => simp [wipe]
  | cons v vs ih =>
    unfold wipe
    by_cases hv : v = i
    · subst hv
      by_cases hl : v < σ.length
      · rw [List.getElem?_set_self (by rw [wipe_length]; exact hl), if_pos ⟨by simp, hl⟩]
      · rw [List.getElem?_eq_none (by simp [wipe_length]; omega), if_neg (fun z => hl z.2), List.getElem?_eq_none (by omega)]
    · rw [List.getElem?_set_ne hv, ih]
      have hm : i ∈ v :: vs ↔ i ∈ vs := by simp [Ne.symm hv]
      simp [hm]
theorem wipeD_get {ρ : Env'} {vs : List Nat} {i : Nat} : (wipeD ρ vs)[i]? = if i ∈ vs ∧ i < ρ.length then some none else ρ[i]? := by
  have len : ∀ vs : List Nat, (wipeD ρ vs).length = ρ.length := fun vs => by
    induction vs with
    | nil => rfl
    | cons v vs ih => unfold wipeD; rw [List.length_set, ih]
  induction vs with
  | nil => simp [wipeD]
  | cons v vs ih =>
    unfold wipeD
    by_cases hv : v = i
    · subst hv
      by_cases hl : v < ρ.length
      · rw [List.getElem?_set_self (by rw [len]; exact hl), if_pos ⟨by simp, hl⟩]
      · rw [List.getElem?_eq_none (by rw [List.length_set, len]; omega), if_neg (fun z => hl z.2), List.getElem?_eq_none (by omega)]
    · rw [List.getElem?_set_ne hv, ih]
      have hm : i ∈ v :: vs ↔ i ∈ vs := by simp [Ne.symm hv]
      simp [hm]
theorem wipeD_length {ρ : Env'} : ∀ {vs : List Nat}, (wipeD ρ vs).length = ρ.length
  | [] => rfl
  | v :: vs => by unfold wipeD; rw [List.length_set, wipeD_length]
theorem HasS.wipe {F : Addr → Prop} {H : Hp} {n : Nat} {σ : L2.St} {ρ : Env'} (h : HasS F H n σ ρ) (vs : List Nat) : HasS F H n (L2.wipe σ vs) (wipeD ρ vs) := by
  refine ⟨h.pb, by rw [wipe_length, wipeD_length, h.len], fun i x e => ?_⟩
  rw [wipeD_get] at e
  rw [wipe_get]
  by_cases hc : i ∈ vs ∧ i < ρ.length
  · rw [if_pos hc] at e
    cases e
  · rw [if_neg hc] at e
    rw [if_neg (by rw [h.len]; exact hc)]
    exact h.at_ i x e
theorem Only.wipe {ts vs : List Nat} {σ σ' : L2.St} {ρ ρ' : Env'} (o : Only ts (L2.wipe σ vs) σ' ρ ρ') (hs : ∀ i ∈ ts, i ∈ vs) : L2.wipe σ' vs = L2.wipe σ vs := by
  apply List.ext_getElem?
  intro i
  have hl : σ'.length = σ.length := by rw [o.ls, wipe_length]
  rw [wipe_get, wipe_get, hl]
  by_cases hc : i ∈ vs ∧ i < σ.length
  · rw [if_pos hc, if_pos hc]
  · rw [if_neg hc, if_neg hc]
    by_cases hi : i ∈ ts
    · have h1 : ¬ i < σ.length := fun z => hc ⟨hs i hi, z⟩
      rw [List.getElem?_eq_none (by omega), List.getElem?_eq_none (by omega)]
    · rw [(o.out i hi).1, wipe_get, if_neg hc]
structure DTs {ι : Type} (X : ι → Cx) (W : WX) (es : List Expr) (t : TD Bool) : Prop where
  ex : ∃ tt, (∀ i, PTs (X i) es tt) ∧ RunT W tt t
theorem DTs.nil : DTs X W [] (fun _ => pure true) := ⟨_, fun _ => pts_nil, fun F H n σ ρ K Kx Q hs ht hq _ => hq true F H n (.refl hs.pb) ht⟩
theorem DTs.one {c : Expr} {t : TD Bool} (h : DT X W c t) : DTs X W [c] t := let ⟨tt, p, r⟩ := h; ⟨tt, fun i => pts_one (p i), r⟩
/-- what a comprehension's reading is worth -/
theorem run_lc {wi : TI} {tgk : TG} {tt : TT} {te : TE} {ti : TD (List D)} {g : TDG} {us : List Nat} {ct : TD Bool} {ce : TD D} {vs : List Nat} (ri : RunI W wi ti) (rg : RunG tgk g us) (rt : RunT W0 tt ct) (re : RunE W0 te ce) (hus : ∀ i ∈ us, i ∈ vs) : RunE W (tLc wi tgk tt te vs) (dLc ti g ct ce vs) := by
  intro F H n σ ρ K Kx Q hs ht hq hx
  refine ri F H n σ ρ _ Kx _ hs ht (fun J ds F1 H1 n1 g1 y hk L hL => ?_) hx
  have hs1 := (hs.mono g1).wipe vs
  -- the turns
  have nF1 : ¬ F1 L := fun f => by
    obtain ⟨o, e⟩ := g1.pb.dom L f
    rw [hL] at e
    cases e
  refine ⟨fun i m H' => m = ds.length - i ∧ i ≤ ds.length ∧ ∃ F' n' av acc, Grow F1 H1 n1 F' H' n' ∧ ¬ F' L ∧ H' L = some (.lst av) ∧ HasL F' H' av acc ∧ (lcD g ct ce (ds.drop i) (wipeD ρ vs) acc).bind (fun ys => (pure (.lst ys) : Wm D)) K Kx n',
    ⟨ds.length, by simp, Nat.zero_le _, F1, n1, [], [], ?_, nF1, upd_same, .nil, hk⟩, ?_⟩
  · have g0 : Grow F1 H1 n1 (plusF F1 L) (upd H1 L (.lst [])) n1 := .laid g1.pb hL .lst
    exact ⟨g0.keep, fun _ f => f, fun _ f => .inl f, g1.pb.put nF1 .lst, Nat.le_refl _⟩
  rintro i m H2 ⟨rfl, hle, F2, n2, av, acc, g2, nF2, hL2, hacc, h2⟩
  by_cases hlt : i < ds.length
  · have ei : ds[i]? = some ds[i] := List.getElem?_eq_getElem hlt
    obtain ⟨go, yy⟩ := y.go i ds[i] F2 H2 n2 g2.later g2.pb ei
    have ed : ds.drop i = ds[i] :: ds.drop (i + 1) := List.drop_eq_getElem_cons hlt
    rw [ed] at h2
    refine .inr ⟨go, fun H' => ∃ F' n' av acc, Grow F1 H1 n1 F' H' n' ∧ ¬ F' L ∧ H' L = some (.lst av) ∧ HasL F' H' av acc ∧ (lcD g ct ce (ds.drop (i + 1)) (wipeD ρ vs) acc).bind (fun ys => (pure (.lst ys) : Wm D)) K Kx n',
      fun H' h => ⟨ds.length - (i + 1), by omega, rfl, hlt, h⟩, fun x H3 hy => ?_⟩
    obtain ⟨F3, g3, hxv⟩ := yy x H3 hy
    have keepL : ∀ {F' : Addr → Prop} {H' : Hp} {n' : Nat}, Grow F2 H2 n2 F' H' n' → ¬ F' L ∧ H' L = some (.lst av) := fun {F' H' n'} g => ⟨fun f => (g.new L f).elim nF2 fun z => (by rw [hL2] at z; cases z), g.keepL hL2 .lst⟩
    cases q : g ds[i] (wipeD ρ vs) with
    | none =>
      have h2 : (match g ds[i] (wipeD ρ vs) with
        | some ρ' => (do if ← calm (ct ρ') then (do let y ← calm (ce ρ'); Wm.need (acc.length < sizeLine); lcD g ct ce (ds.drop (i + 1)) (wipeD ρ vs) (acc ++ [y])) else lcD g ct ce (ds.drop (i + 1)) (wipeD ρ vs) acc : Wm (List D))
        | none => Wm.fail).bind (fun ys => (pure (.lst ys) : Wm D)) K Kx n2 := h2
      rw [q] at h2
      exact h2.elim
    | some ρ' =>
      have h2 : (match g ds[i] (wipeD ρ vs) with
        | some ρ' => (do if ← calm (ct ρ') then (do let y ← calm (ce ρ'); Wm.need (acc.length < sizeLine); lcD g ct ce (ds.drop (i + 1)) (wipeD ρ vs) (acc ++ [y])) else lcD g ct ce (ds.drop (i + 1)) (wipeD ρ vs) acc : Wm (List D))
        | none => Wm.fail).bind (fun ys => (pure (.lst ys) : Wm D)) K Kx n2 := h2
      rw [q] at h2
      have gs := g2.trans g3
      refine rg F3 H3 n2 (wipe σ vs) (wipeD ρ vs) ρ' x ds[i] _ (hs1.mono gs) hxv q fun σ' s' o => ⟨o.wipe hus, ?_⟩
      refine rt F3 H3 n2 σ' ρ' _ XFalse _ s' h2 (fun b F4 H4 n4 g4 hb => ?_) fun _ _ _ _ _ _ _ _ z => z.elim
      have g34 := g3.trans g4
      obtain ⟨nF4, hL4⟩ := keepL g34
      cases b with
      | false => exact iteF ⟨F4, n4, av, acc, g2.trans g34, nF4, hL4, hacc.mono g34, hb⟩
      | true =>
        refine iteT (re F4 H4 n4 σ' ρ' _ XFalse _ (s'.mono g4) hb (fun v d F5 H5 n5 g5 hv hd => ?_) fun _ _ _ _ _ _ _ _ z => z.elim)
        have g35 := g34.trans g5
        obtain ⟨nF5, hL5⟩ := keepL g35
        have ha5 := hacc.mono g35
        refine ⟨av, hL5, by rw [ha5.len]; exact hd.1, F5, n5, av ++ [v], acc ++ [d], ?_, nF5, upd_same, (ha5.snoc hv).out nF5, hd.2⟩
        have gg := g2.trans g35
        refine ⟨fun a o e => ?_, gg.sub, gg.new, gg.pb.put nF5 .lst, gg.le⟩
        · have ne : a ≠ L := ne_of_none e hL
          rw [upd_ne ne]
          exact gg.keep a o e
  · have e : i = ds.length := by omega
    subst e
    rw [List.drop_length] at h2
    refine .inl ⟨y.stop _ F2 H2 n2 g2.later (Nat.le_refl _), ?_⟩
    -- the list is frozen
    have gl : Grow F1 H1 n1 (plusF F2 L) H2 n2 := ⟨g2.keep, fun a f => .inl (g2.sub a f), fun a f => f.elim (g2.new a) fun e => .inr (e ▸ hL), g2.pb.sup (fun _ => .inl) (fun a f => f.elim (g2.pb.dom a) fun e => ⟨_, e ▸ hL2⟩), g2.le⟩
    have l2 : Later F2 H2 n2 (plusF F2 L) H2 n2 := ⟨fun a o _ h => .inl h, fun a f => .inl f, Nat.le_refl _⟩
    exact hq _ (.lst acc) _ H2 n2 (g1.trans gl) (.lst plusF_same hL2 (hacc.later l2)) h2
theorem DE.lc {elt tg iter : Expr} {ifs : List Expr} {scope : Scope} {own : List (Str × Nat)} {pos : Pos} {ti : TD (List D)} {g : TDG} {us : List Nat} {ct : TD Bool} {ce : TD D} (hc : ∀ i, (X i).calm = true) (hN : ∀ i, (X i).N.Nodup) (hi : DI X W tg iter ti)
    (ok : ∀ i, BlkOk (X i).N (X i).env.scope scope own) (hg : DG (blkX X scope) tg g us) (ht : DTs (blkX X scope) W0 ifs ct) (he : DE (blkX X scope) W0 elt ce) (hus : ∀ i ∈ us, i ∈ own.map (·.2) := by decide)
    (hs : ∀ i x, foldedSetIterable iter (X i).env x = pure x := by intro _ _; rfl) : DE X W (.ListComp elt [⟨tg, iter, ifs, 0⟩] scope pos) (dLc ti g ct ce (own.map (·.2))) := by
  obtain ⟨wi, pi, ri⟩ := hi
  obtain ⟨tgk, pg, rg⟩ := hg
  obtain ⟨tt, pt, rt⟩ := ht
  obtain ⟨te, pe, re⟩ := he
  exact ⟨_, fun i => pe_lc (hc i) (hN i) (pi i) (ok i) (fun s H C cl fp => pg (i, s, H, C, cl, fp)) (fun s H C cl fp => pt (i, s, H, C, cl, fp)) (fun s H C cl fp => pe (i, s, H, C, cl, fp)) (hs i), run_lc ri rg rt re hus⟩
theorem DS.setLc {k : Nat} {y : Str} {py : Pos} {elt tg iter : Expr} {ifs : List Expr} {scope : Scope} {own : List (Str × Nat)} {pos spos : Pos} {ti : TD (List D)} {g : TDG} {us : List Nat} {ct : TD Bool} {ce : TD D} (hc : ∀ i, (X i).calm = true) (hN : ∀ i, (X i).N.Nodup)
    (hy : ∀ i, (X i).N[k]? = some y) (hyl : ∀ i, (X i).env.scope.names.lookup y = some .local) (hsw : ∀ i, swapsWith (.ListComp elt [⟨tg, iter, ifs, 0⟩] scope pos) (some (.Name y py)) spos.line (X i).env = pure true) (hi : DI X W tg iter ti)
    (ok : ∀ i, BlkOk (X i).N (X i).env.scope scope own) (hg : DG (blkX X scope) tg g us) (ht : DTs (blkX X scope) W0 ifs ct) (he : DE (blkX X scope) W0 elt ce) (hus : ∀ i ∈ us, i ∈ own.map (·.2) := by decide)
    (hs : ∀ i x, foldedSetIterable iter (X i).env x = pure x := by intro _ _; rfl) : DS X W (.Assign [.Name y py] (.ListComp elt [⟨tg, iter, ifs, 0⟩] scope pos) spos) (dAsg (dLc ti g ct ce (own.map (·.2))) (dName k)) := by
  obtain ⟨wi, pi, ri⟩ := hi
  obtain ⟨tgk, pg, rg⟩ := hg
  obtain ⟨tt, pt, rt⟩ := ht
  obtain ⟨te, pe, re⟩ := he
  refine ⟨_, fun i => ps_setLc (i := k) (hc i) (hN i) (hy i) (hyl i) (hsw i) (pi i) (ok i) (fun s H C cl fp => pg (i, s, H, C, cl, fp)) (fun s H C cl fp => pt (i, s, H, C, cl, fp)) (fun s H C cl fp => pe (i, s, H, C, cl, fp)) (hs i), fun B F H n σ ρ E Z s h eo => ?_⟩
  exact (run_lc ri rg rt re hus).on s h eo fun v d F' H' n' s' g' hv hk eo' => eo'.nx _ _ F' H' n' (s'.set hv) .refl hk
end
end DL


set_option maxRecDepth 100000
set_option maxHeartbeats 2000000
/-! DL4: operators and built-ins by data. Own work. -/
namespace DL
open PySem PySem.Spec PyProof.Rows L2

/-! ### arithmetic -/
section
variable {X : Cx}
def fInt (C : Int → Int → Prop) (g : Int → Int → Int) : D → D → Wm D
  | .int i, .int j => do Wm.need (C i j); pure (.int (g i j))
  | _, _ => Wm.fail
theorem sem_int {C : Int → Int → Prop} {g : Int → Int → Int} : Sem2 (rI C fun i j => .int (g i j)) (fInt C g) := by
  intro F H n x y a b K Q pb hx hy ht hq
  cases hx <;> cases hy <;> first | exact ht.elim | skip
  rename_i i j
  exact ⟨i, j, rfl, rfl, ht.1, hq _ _ F H n (.refl pb) (.int _) ht.2⟩
def fCmpI (g : Int → Int → Bool) : D → D → Wm D
  | .int i, .int j => pure (.bl (g i j))
  | _, _ => Wm.fail
theorem sem_cmpI {g : Int → Int → Bool} : Sem2 (rI0 fun i j => .bl (g i j)) (fCmpI g) := by
  intro F H n x y a b K Q pb hx hy ht hq
  cases hx <;> cases hy <;> first | exact ht.elim | skip
  rename_i i j
  exact ⟨i, j, rfl, rfl, hq _ _ F H n (.refl pb) (.bl _) ht⟩
def CDivA (_ j : Int) : Prop := j ≠ 0 ∧ j.natAbs.log2 < 9000
theorem op_fdivA : OpR X (binaryOp .FloorDiv) (rI CDivA fun i j => .int (i.fdiv j)) := opI fun _ _ _ _ _ _ _ hc q => floordiv_int hc.1 q (.inl (PyProof.noPylong_of_log2 hc.2))
def CMod (_ j : Int) : Prop := j ≠ 0
theorem op_modA : OpR X (binaryOp .Mod) (rI CMod fun i j => .int (i.fmod j)) := op_modN
/-- + -/
def fAdd : D → D → Wm D
  | .int i, .int j => pure (.int (i + j))
  | .str x, .str y => do Wm.need (Fits (x.length + y.length)); pure (.str (x ++ y))
  | .tup xs, .tup ys => do Wm.need (Fits (xs.length + ys.length)); pure (.tup (xs ++ ys))
  | .lst xs, .lst ys => do Wm.need (Fits (xs.length + ys.length)); pure (.lst (xs ++ ys))
  | _, _ => Wm.fail
def rAddA (K : PySem.W.Frag) : R2 := fun x y H Q => rI0 (fun i j => .int (i + j)) x y H Q ∨ (∃ i j, x = V.str i ∧ y = V.str j ∧ i.length + j.length ≤ sizeLine ∧ Q (.str (i ++ j)) H) ∨ rCatA K x y H Q ∨ rCat x y H Q
theorem op_addA : OpR X (binaryOp .Add) (rAddA X.K) := op_add.or (op_add_str.or (op_catA.or op_cat))
theorem HasL.app {F : Addr → Prop} {H : Hp} : ∀ {vs ws : List V} {ds es : List D}, HasL F H vs ds → HasL F H ws es → HasL F H (vs ++ ws) (ds ++ es)
  | _, _, _, _, .nil, g => g
  | _, _, _, _, .cons h l, g => .cons h (HasL.app l g)
theorem HasL.nil_iff {F : Addr → Prop} {H : Hp} {vs : List V} {ds : List D} (h : HasL F H vs ds) : vs = [] ↔ ds = [] := by
  cases h <;> simp
theorem sem_add {K : PySem.W.Frag} : Sem2 (rAddA K) fAdd := by
  intro F H n x y a b Kd Q pb hx hy ht hq
  cases hx <;> cases hy <;> first | exact ht.elim | skip
  case int.int i j => exact .inl ⟨i, j, rfl, rfl, hq _ _ F H n (.refl pb) (.int _) ht⟩
  case str.str i j => exact .inr (.inl ⟨i, j, rfl, rfl, ht.1, hq _ _ F H n (.refl pb) (.str _) ht.2⟩)
  case tup.tup a xs ds fa ha la b ys es fb hb lb =>
    refine .inr (.inr (.inl ⟨a, b, xs, ys, rfl, rfl, .of ha, .of hb, by rw [la.len, lb.len]; exact ht.1, fun e => ?_, fun _ e => ?_, fun _ _ p hp => ?_⟩))
    · subst e
      cases la
      exact hq _ _ F H n (.refl pb) (.tup fb hb lb) ht.2
    · subst e
      cases lb
      have ht2 : Kd (.tup (ds ++ [])) n := ht.2
      rw [List.append_nil] at ht2
      exact hq _ _ F H n (.refl pb) (.tup fa ha la) ht2
    · have g : Grow F H n (plusF F p) (upd H p (.tup (xs ++ ys))) n := .laid pb hp .tup
      exact hq _ _ _ _ n g (.tup plusF_same upd_same ((la.app lb).mono g)) ht.2
  case lst.lst a xs ds fa ha la b ys es fb hb lb =>
    refine .inr (.inr (.inr ⟨a, b, xs, ys, rfl, rfl, ha, hb, by rw [la.len, lb.len]; exact ht.1, fun p hp => ?_⟩))
    have g : Grow F H n (plusF F p) (upd H p (.lst (xs ++ ys))) n := .laid pb hp .lst
    exact hq _ _ _ _ n g (.lst plusF_same upd_same ((la.app lb).mono g)) ht.2
def fNeg : D → Wm D
  | .int i => pure (.int (-i))
  | _ => Wm.fail
theorem sem_neg : Sem1 (rU fun i => .int (-i)) fNeg := by
  intro F H n x a K Q pb hx ht hq
  cases hx <;> first | exact ht.elim | skip
  exact ⟨_, rfl, hq _ _ F H n (.refl pb) (.int _) ht⟩
/-- is of two bools, of None -/
def fIs : D → D → Wm D
  | .bl a, .bl b => pure (.bl (decide (a = b)))
  | _, _ => Wm.fail
theorem sem_isB : Sem2 rIsB fIs := by
  intro F H n x y a b K Q pb hx hy ht hq
  cases hx <;> cases hy <;> first | exact ht.elim | skip
  rename_i i j
  exact ⟨i, j, rfl, rfl, hq _ _ F H n (.refl pb) (.bl _) ht⟩
end

/-! ### data as the library's -/
mutual
def pyD : D → PyData
  | .non => .none
  | .bl b => .bool b
  | .int i => .int i
  | .str x => .str x
  | .tup ds => .tuple (pyL ds)
  | .lst ds => .list (pyL ds)
  | .dic ks ds => .dict ((ks.map fun k => match k with | .inl i => PyData.int i | .inr x => PyData.str x).zip (pyL ds))
  | _ => .none
def pyL : List D → List PyData
  | [] => []
  | d :: ds => pyD d :: pyL ds
end
mutual
/-- without dicts, objects -/
def flatD : D → Bool
  | .non | .bl _ | .int _ | .str _ => true
  | .tup ds | .lst ds => flatL ds
  | _ => false
def flatL : List D → Bool
  | [] => true
  | d :: ds => flatD d && flatL ds
end
mutual
theorem Has.dp {K : PySem.W.Frag} {F : Addr → Prop} {H : Hp} : ∀ {v : V} {d : D}, Has F H v d → flatD d = true → Dp K H v (pyD d)
  | _, _, .non, _ => by unfold pyD; exact .non
  | _, _, .bl b, _ => by unfold pyD; exact .bl b
  | _, _, .int i, _ => by unfold pyD; exact .int i
  | _, _, .str x, _ => by unfold pyD; exact .str x
  | _, _, .tup f h l, e => by unfold pyD; unfold flatD at e; exact .tup (.of h) (HasL.dp l e)
  | _, _, .lst f h l, e => by unfold pyD; unfold flatD at e; exact .lst (.of h) (HasL.dp l e)
  | _, _, .dic _ _ _ _ _, e => by unfold flatD at e; cases e
  | _, _, .obj _ _ _ _, e => by unfold flatD at e; cases e
  | _, _, .pen _ _ _ _ _ _, e => by unfold flatD at e; cases e
  | _, _, .clo0 _ _ _ _, e => by unfold flatD at e; cases e
  | _, _, .fnA _, e => by unfold flatD at e; cases e
  | _, _, .exc _ _ _ _ _ _, e => by unfold flatD at e; cases e
  | _, _, .exc0 _ _, e => by unfold flatD at e; cases e
  | _, _, .scr _ _, e => by unfold flatD at e; cases e
  | _, _, .clo1 _ _ _ _ _ _ _, e => by unfold flatD at e; cases e
theorem HasL.dp {K : PySem.W.Frag} {F : Addr → Prop} {H : Hp} : ∀ {vs : List V} {ds : List D}, HasL F H vs ds → flatL ds = true → DpAll K H vs (pyL ds)
  | _, _, .nil, _ => by unfold pyL; exact .nil
  | _, _, .cons h l, e => by
    unfold flatL at e
    obtain ⟨e1, e2⟩ := Bool.and_eq_true_iff.mp e
    unfold pyL
    exact .cons (Has.dp h e1) (HasL.dp l e2)
end
/-- may be compared by == -/
def EqOk (d : D) : Prop := flatD d = true ∧ SeqAt.shaped (pyD d) = true
def eqD (d e : D) : Bool := PyData.eqv (pyD d) (pyD e)
def fEq : D → D → Wm D := fun d e => do Wm.need (EqOk d ∧ EqOk e); pure (.bl (eqD d e))
def fNe : D → D → Wm D := fun d e => do Wm.need (EqOk d ∧ EqOk e); pure (.bl (!eqD d e))
theorem sem_eq {K : PySem.W.Frag} : Sem2 (rEqD K) fEq := by
  intro F H n x y a b Kd Q pb hx hy ht hq
  obtain ⟨⟨⟨f1, s1⟩, f2, s2⟩, hk⟩ := ht
  exact ⟨_, _, hx.dp f1, hy.dp f2, s1, s2, hq _ _ F H n (.refl pb) (.bl _) hk⟩
theorem sem_ne {K : PySem.W.Frag} : Sem2 (rNeD K) fNe := by
  intro F H n x y a b Kd Q pb hx hy ht hq
  obtain ⟨⟨⟨f1, s1⟩, f2, s2⟩, hk⟩ := ht
  exact ⟨_, _, hx.dp f1, hy.dp f2, s1, s2, hq _ _ F H n (.refl pb) (.bl _) hk⟩

/-! ### repr -/
mutual
/-- without lists, objects; dicts are empty -/
def tupD : D → Bool
  | .non => true
  | .bl _ => true
  | .int _ => true
  | .str _ => true
  | .tup ds => tupL ds
  | .dic ks _ => ks.isEmpty
  | .lst _ => false
  | .obj _ _ _ => false
  | .exc _ _ _ => false
  | .pen => false
  | .clo _ _ _ => false
  | .fnA _ => false
  | .scr _ _ _ => false
def tupL : List D → Bool
  | [] => true
  | d :: ds => tupD d && tupL ds
end
structure Shows (d : D) : Prop where
  flat : (flatD d || tupD d) = true
  show_ : (pyD d).showable = true
  dep : (pyD d).depth ≤ 40
  len : (pyD d).shown.length ≤ sizeLine
def shw (d : D) : Str := (pyD d).shown
mutual
theorem pyD_noDict : ∀ d, flatD d = true → (pyD d).hasDict = false
  | .non, _ => by unfold pyD; simp only [PyData.hasDict]
  | .bl _, _ => by unfold pyD; simp only [PyData.hasDict]
  | .int _, _ => by unfold pyD; simp only [PyData.hasDict]
  | .str _, _ => by unfold pyD; simp only [PyData.hasDict]
  | .tup ds, e => by unfold flatD at e; unfold pyD; simp only [PyData.hasDict]; exact pyL_noDict ds e
  | .lst ds, e => by unfold flatD at e; unfold pyD; simp only [PyData.hasDict]; exact pyL_noDict ds e
  | .dic _ _, e => by unfold flatD at e; cases e
  | .obj _ _ _, e => by unfold flatD at e; cases e
  | .exc _ _ _, e => by unfold flatD at e; cases e
  | .clo _ _ _, e => by unfold flatD at e; cases e
  | .fnA _, e => by unfold flatD at e; cases e
  | .scr _ _ _, e => by unfold flatD at e; cases e
  | .pen, e => by unfold flatD at e; cases e
theorem pyL_noDict : ∀ ds, flatL ds = true → PyData.hasDictAll (pyL ds) = false
  | [], _ => by unfold pyL; simp only [PyData.hasDictAll]
  | d :: ds, e => by
    unfold flatL at e
    obtain ⟨e1, e2⟩ := Bool.and_eq_true_iff.mp e
    unfold pyL
    simp only [PyData.hasDictAll, pyD_noDict d e1, pyL_noDict ds e2, Bool.or_self]
end
mutual
theorem Has.readsT {P : Program} {w : World} {h : Heap} {F : Addr → Prop} {H : Hp} (ok : HOk P w H h) : ∀ {v : V} {d : D} {u : Value}, Has F H v d → RelV v u → tupD d = true → ∃ as, Reads h u (pyD d) as ∧ sysModules ∉ as
  | _, _, _, .non, r, _ => by cases r; unfold pyD; exact ⟨[], .none, by simp⟩
  | _, _, _, .bl b, r, _ => by cases r; unfold pyD; exact ⟨[], .bool b, by simp⟩
  | _, _, _, .int i, r, _ => by obtain ⟨t, rfl⟩ := r; unfold pyD; exact ⟨[], .int i t, by simp⟩
  | _, _, _, .str x, r, _ => by obtain ⟨t, rfl⟩ := r; unfold pyD; exact ⟨[], .str x t, by simp⟩
  | _, _, _, .tup (a := a) f hh l, r, e => by
    cases r
    unfold tupD at e
    obtain ⟨_, its, rv, o, ho, hc, n, hd⟩ := (show ObjOk P w H h a (.tup _) from ok a _ hh)
    obtain ⟨as, hr, hn⟩ := HasL.readsT ok l rv e
    unfold pyD
    exact ⟨as, .tuple ho hc hd (by simpa using hr), hn⟩
  | _, _, _, .lst _ _ _, _, e => by unfold tupD at e; cases e
  | _, _, _, .dic (a := a) (kvs := kvs) (ks := ks) (ds := ds) f hh q k l, r, e => by
    cases r
    unfold tupD at e
    have hks : ks = [] := List.isEmpty_iff.mp e
    subst hks
    have hkv : kvs = [] := List.map_eq_nil_iff.mp k
    subst hkv
    cases l
    obtain ⟨_, hs, vs, rel, o, es, ep, ho, hx, hd, _, hp, _⟩ := (show ObjOk P w H h a (.dK []) from ok a _ hh)
    cases rel
    have hes : es.toList = [] := by cases hp' : es.toList with | nil => rfl | cons _ _ => rw [hp'] at hp; cases hp
    unfold pyD
    exact ⟨[a], .dict (as := []) (bs := []) ho hx.1 hd (by rw [hes]; exact .nil) (by rw [hes]; exact .nil), by
      intro z
      have z : sysModules = a := by simpa using z
      rw [← z] at hs
      simp at hs⟩
  | _, _, _, .obj _ _ _ _, _, e => by unfold tupD at e; cases e
  | _, _, _, .pen _ _ _ _ _ _, _, e => by unfold tupD at e; cases e
  | _, _, _, .clo0 _ _ _ _, _, e => by unfold tupD at e; cases e
  | _, _, _, .clo1 _ _ _ _ _ _ _, _, e => by unfold tupD at e; cases e
  | _, _, _, .fnA _, _, e => by unfold tupD at e; cases e
  | _, _, _, .exc _ _ _ _ _ _, _, e => by unfold tupD at e; cases e
  | _, _, _, .exc0 _ _, _, e => by unfold tupD at e; cases e
  | _, _, _, .scr _ _, _, e => by unfold tupD at e; cases e
theorem HasL.readsT {P : Program} {w : World} {h : Heap} {F : Addr → Prop} {H : Hp} (ok : HOk P w H h) : ∀ {vs : List V} {ds : List D} {us : List Value}, HasL F H vs ds → Vals vs us → tupL ds = true → ∃ as, ReadsAll h us (pyL ds) as ∧ sysModules ∉ as
  | _, _, _, .nil, r, _ => by cases r; unfold pyL; exact ⟨[], .nil, by simp⟩
  | _, _, _, .cons hh l, r, e => by
    unfold tupL at e
    obtain ⟨e1, e2⟩ := Bool.and_eq_true_iff.mp e
    cases r with
    | cons r1 r2 =>
      obtain ⟨as, q1, n1⟩ := Has.readsT ok hh r1 e1
      obtain ⟨bs, q2, n2⟩ := HasL.readsT ok l r2 e2
      unfold pyL
      exact ⟨as ++ bs, .cons q1 q2, fun z => (List.mem_append.mp z).elim n1 n2⟩
end
section
variable {X : Cx}
theorem reads_imm {prog : Program} {w : World} {A : Around} {E : Value → Shared → Prop} {s : Shared} {Q : Value → Shared → Prop} {u : Value} {d : PyData} {as : List Addr} (r : Reads s.heap u d as) (hs : d.showable = true) (hn : d.hasDict = true → sysModules ∉ as) (hg : A.guards = some []) (hu : A.units + (d.depth + 1) < cLine)
    (hsz : d.shown.length ≤ sizeLine) (hQ : ∀ h' t tk, (∀ b o, s.heap.get? b = some o → h'.get? b = some o) → Q (.str d.shown t) { s with heap := h', toks := tk }) : wpAny (model prog w) A (call (.builtin "repr") [u]) Q E s := by
  cases r with
  | none => exact PySem.P.repr_of_none (hQ s.heap _ _ fun _ _ e => e)
  | bool b => exact PySem.P.repr_of_bool (hQ s.heap _ _ fun _ _ e => e)
  | int i t => exact PySem.P.repr_of_int (of_decide_eq_true hs) (hQ s.heap _ _ fun _ _ e => e)
  | str x t => exact PySem.P.repr_of_str (hQ s.heap _ _ fun _ _ e => e) hsz
  | list h1 h2 h3 h4 => exact repr_of_reads' (.list h1 h2 h3 h4) hs hn hg hu (fun _ _ e => e) hQ hsz
  | tuple h1 h2 h3 h4 => exact repr_of_reads' (.tuple h1 h2 h3 h4) hs hn hg hu (fun _ _ e => e) hQ hsz
  | dict h1 h2 h3 h4 h5 => exact repr_of_reads' (.dict h1 h2 h3 h4 h5) hs hn hg hu (fun _ _ e => e) hQ hsz

def rRepr : List V → Hp → VK → Prop := fun vs H Q => ∃ (x : V) (d : D) (F : Addr → Prop), vs = [x] ∧ Has F H x d ∧ Shows d ∧ Q (.str (shw d)) H
theorem call_reprD (hg : X.A.guards = some []) (hu : X.A.units + 64 < cLine) : CallR X (.builtin "repr") rRepr := by
  intro pins s σ H xs us Q I r h
  obtain ⟨x, d, F, rfl, hd, sh, q⟩ := h
  obtain ⟨u, rfl, ru⟩ := vals1 r
  have dep := sh.dep
  rcases Bool.or_eq_true_iff.mp sh.flat with hf | ht
  · obtain ⟨as, rd⟩ := Dp.reads I _ x u (hd.dp hf) ru
    exact reads_imm rd sh.show_ (fun e => by rw [pyD_noDict d hf] at e; cases e) hg (by omega) sh.len fun h' t tk k => ⟨.str _, H, I.kept k, ⟨_, rfl⟩, q⟩
  · obtain ⟨as, rd, hn⟩ := hd.readsT I.hok ru ht
    exact reads_imm rd sh.show_ (fun _ => hn) hg (by omega) sh.len fun h' t tk k => ⟨.str _, H, I.kept k, ⟨_, rfl⟩, q⟩
def fRepr : List D → Wm D
  | [d] => do Wm.need (Shows d); pure (.str (shw d))
  | _ => Wm.fail
theorem sem_repr : SemL rRepr fRepr := by
  intro F H n xs as Kd Q pb hx ht hq
  cases hx with
  | nil => exact ht.elim
  | cons h1 h2 =>
    cases h2 with
    | nil => exact ⟨_, _, F, rfl, h1, ht.1, hq _ _ F H n (.refl pb) (.str _) ht.2⟩
    | cons _ _ => exact ht.elim
/-! ### len, list, tuple, all, abs, gcd, int -/
def fLen : List D → Wm D
  | [.lst ds] => pure (.int ds.length)
  | [.tup ds] => pure (.int ds.length)
  | [.str x] => do Wm.need (Fits x.length); pure (.int x.length)
  | _ => Wm.fail
def rLen (K : PySem.W.Frag) : List V → Hp → VK → Prop := fun xs H Q => (∃ p ys, xs = [.ref p] ∧ (SqL K H p ys ∨ SqT K H p ys) ∧ Q (.int ys.length) H) ∨ ∃ z : Str, xs = [.str z] ∧ z.length ≤ sizeLine ∧ Q (.int z.length) H
theorem call_lenA : CallR X (.builtin "len") (rLen X.K) := call_len_seq.or call_len_str
theorem sem_len {K : PySem.W.Frag} : SemL (rLen K) fLen := by
  intro F H n xs as Kd Q pb hx ht hq
  cases hx with
  | nil => exact ht.elim
  | cons h1 h2 =>
    cases h2 with
    | nil =>
      cases h1 <;> first | exact ht.elim | skip
      case str x => exact .inr ⟨x, rfl, ht.1, hq _ _ F H n (.refl pb) (.int _) ht.2⟩
      case tup a vs ds f ha hl => exact .inl ⟨a, vs, rfl, .inr (.of ha), hq _ (.int ds.length) F H n (.refl pb) (by rw [hl.len]; exact .int _) ht⟩
      case lst a vs ds f ha hl => exact .inl ⟨a, vs, rfl, .inl (.of ha), hq _ (.int ds.length) F H n (.refl pb) (by rw [hl.len]; exact .int _) ht⟩
    | cons _ _ => cases h1 <;> exact ht.elim
def fList : List D → Wm D
  | [.lst ds] => pure (.lst ds)
  | [.tup ds] => pure (.lst ds)
  | _ => Wm.fail
theorem sem_list {K : PySem.W.Frag} : SemL (fun xs H Q => ∃ p ys, xs = [.ref p] ∧ (SqL K H p ys ∨ SqT K H p ys) ∧ ∀ l, H l = none → Q (.ref l) (upd H l (.lst ys))) fList := by
  intro F H n xs as Kd Q pb hx ht hq
  have key : ∀ {a : Addr} {vs : List V} {ds : List D}, HasL F H vs ds → Kd (.lst ds) n → ∀ l, H l = none → Q (.ref l) (upd H l (.lst vs)) := fun {a vs ds} hl hk l hp => by
    have g : Grow F H n (plusF F l) (upd H l (.lst vs)) n := .laid pb hp .lst
    exact hq _ _ _ _ n g (.lst plusF_same upd_same (hl.mono g)) hk
  cases hx with
  | nil => exact ht.elim
  | cons h1 h2 =>
    cases h2 with
    | nil =>
      cases h1 <;> first | exact ht.elim | skip
      case tup a vs ds f ha hl => exact ⟨a, vs, rfl, .inr (.of ha), key (a := a) hl ht⟩
      case lst a vs ds f ha hl => exact ⟨a, vs, rfl, .inl (.of ha), key (a := a) hl ht⟩
    | cons _ _ => cases h1 <;> exact ht.elim
def fTuple : List D → Wm D
  | [.lst ds] => pure (.tup ds)
  | [.tup ds] => pure (.tup ds)
  | _ => Wm.fail
theorem sem_tuple {K : PySem.W.Frag} : SemL (fun xs H Q => ∃ p ys, xs = [.ref p] ∧ ((SqL K H p ys ∧ ∀ l, H l = none → Q (.ref l) (upd H l (.tup ys))) ∨ (SqT K H p ys ∧ Q (.ref p) H))) fTuple := by
  intro F H n xs as Kd Q pb hx ht hq
  cases hx with
  | nil => exact ht.elim
  | cons h1 h2 =>
    cases h2 with
    | nil =>
      cases h1 <;> first | exact ht.elim | skip
      case tup a vs ds f ha hl => exact ⟨a, vs, rfl, .inr ⟨.of ha, hq _ _ F H n (.refl pb) (.tup f ha hl) ht⟩⟩
      case lst a vs ds f ha hl =>
        refine ⟨a, vs, rfl, .inl ⟨.of ha, fun l hp => ?_⟩⟩
        have g : Grow F H n (plusF F l) (upd H l (.tup vs)) n := .laid pb hp .tup
        exact hq _ _ _ _ n g (.tup plusF_same upd_same (hl.mono g)) ht
    | cons _ _ => cases h1 <;> exact ht.elim
/-- all of a list of bools -/
def boolOf : D → Option Bool
  | .bl b => some b
  | _ => none
def boolsOf : List D → Option (List Bool)
  | [] => some []
  | d :: ds => (boolOf d).bind fun b => (boolsOf ds).map (b :: ·)
theorem Has.boolOf {F : Addr → Prop} {H : Hp} {v : V} {d : D} {b : Bool} (h : Has F H v d) (e : boolOf d = some b) : v = .bl b := by
  cases h <;> first | (cases e; rfl) | cases e
theorem HasL.bools {F : Addr → Prop} {H : Hp} {vs : List V} {ds : List D} {bs : List Bool} (h : HasL F H vs ds) (e : boolsOf ds = some bs) : vs = bs.map V.bl := by
  induction ds generalizing vs bs with
  | nil =>
    cases h
    cases e
    rfl
  | cons d ds ih =>
    cases h with
    | cons h l =>
      obtain ⟨b, e1, e2⟩ := Option.bind_eq_some_iff.mp e
      obtain ⟨cs, e3, e4⟩ := Option.map_eq_some_iff.mp e2
      subst e4
      rw [h.boolOf e1, ih l e3]
      rfl
def fAll (g : List Bool → Bool) : List D → Wm D
  | [.lst ds] => match boolsOf ds with
    | some bs => pure (.bl (g bs))
    | none => Wm.fail
  | _ => Wm.fail
theorem sem_allG {K : PySem.W.Frag} {g : List Bool → Bool} : SemL (fun vs H Q => ∃ (a : Addr) (bs : List Bool), vs = [V.ref a] ∧ SqL K H a (bs.map V.bl) ∧ Q (.bl (g bs)) H) (fAll g) := by
  intro F H n xs as Kd Q pb hx ht hq
  cases hx with
  | nil => exact ht.elim
  | cons h1 h2 =>
    cases h2 with
    | nil =>
      cases h1 <;> first | exact ht.elim | skip
      case lst a vs ds f ha hl =>
        have ht : (match boolsOf ds with
          | some bs => (pure (.bl (g bs)) : Wm D)
          | none => Wm.fail) Kd XFalse n := ht
        cases e : boolsOf ds with
        | none => rw [e] at ht; exact ht.elim
        | some bs =>
          rw [e] at ht
          have ev := hl.bools e
          subst ev
          exact ⟨a, bs, rfl, .of ha, hq _ _ F H n (.refl pb) (.bl _) ht⟩
    | cons _ _ => cases h1 <;> exact ht.elim
theorem sem_all {K : PySem.W.Frag} : SemL (rAll K) (fAll fun bs => bs.all id) := sem_allG
theorem sem_any {K : PySem.W.Frag} : SemL (rAny K) (fAll fun bs => bs.any id) := sem_allG
def fAbs : List D → Wm D
  | [.int i] => pure (.int (if i < 0 then -i else i))
  | _ => Wm.fail
theorem sem_abs : SemL (fun xs H Q => ∃ i, xs = [V.int i] ∧ Q (.int (if i < 0 then -i else i)) H) fAbs := by
  intro F H n xs as Kd Q pb hx ht hq
  cases hx with
  | nil => exact ht.elim
  | cons h1 h2 =>
    cases h2 with
    | nil =>
      cases h1 <;> first | exact ht.elim | skip
      exact ⟨_, rfl, hq _ _ F H n (.refl pb) (.int _) ht⟩
    | cons _ _ => cases h1 <;> exact ht.elim
def fIntC : List D → Wm D
  | [.int i] => pure (.int i)
  | _ => Wm.fail
theorem sem_intC : SemL (fun xs H Q => (∃ i, xs = [V.int i] ∧ Q (.int i) H) ∨ ∃ k, xs = [V.bl k] ∧ Q (.int (if k then 1 else 0)) H) fIntC := by
  intro F H n xs as Kd Q pb hx ht hq
  cases hx with
  | nil => exact ht.elim
  | cons h1 h2 =>
    cases h2 with
    | nil =>
      cases h1 <;> first | exact ht.elim | skip
      exact .inl ⟨_, rfl, hq _ _ F H n (.refl pb) (.int _) ht⟩
    | cons _ _ => cases h1 <;> exact ht.elim
def fGcd : List D → Wm D
  | [.int i, .int j] => pure (.int (Nat.gcd i.natAbs j.natAbs : Nat))
  | _ => Wm.fail
theorem sem_gcd : SemL rGcd fGcd := by
  intro F H n xs as Kd Q pb hx ht hq
  cases hx with
  | nil => exact ht.elim
  | cons h1 h2 =>
    cases h2 with
    | nil => cases h1 <;> exact ht.elim
    | cons h2 h3 =>
      cases h3 with
      | nil =>
        cases h1 <;> cases h2 <;> first | exact ht.elim | skip
        exact ⟨_, _, rfl, hq _ _ F H n (.refl pb) (.int _) ht⟩
      | cons _ _ => cases h1 <;> cases h2 <;> exact ht.elim
/-! ### subscripts -/
def fIx : D → D → Wm D
  | .lst ds, .int i => match atI ds i with
    | some d => pure d
    | none => Wm.fail
  | .tup ds, .int i => match atI ds i with
    | some d => pure d
    | none => Wm.fail
  | .str z, .int i => match atI z.cps.toList i with
    | some c => do Wm.need (Fits z.length); pure (.str ⟨#[c]⟩)
    | none => Wm.fail
  | _, _ => Wm.fail
theorem HasL.atI {F : Addr → Prop} {H : Hp} {vs : List V} {ds : List D} {i : Int} {d : D} (h : HasL F H vs ds) (e : L2.atI ds i = some d) : ∃ v, L2.atI vs i = some v ∧ Has F H v d := by
  unfold L2.atI at e ⊢
  rw [h.len]
  cases q : ixN ds.length i with
  | none => rw [q] at e; cases e
  | some j =>
    rw [q] at e
    have e : ds[j]? = some d := e
    exact h.get e
theorem sem_ix {K : PySem.W.Frag} : Sem2 (rIx K) fIx := by
  intro F H n x y a b Kd Q pb hx hy ht hq
  cases hx <;> cases hy <;> first | exact ht.elim | skip
  case str.int z i =>
    have ht : (match L2.atI z.cps.toList i with
      | some c => (do Wm.need (Fits z.length); pure (.str ⟨#[c]⟩) : Wm D)
      | none => Wm.fail) Kd XFalse n := ht
    cases e : L2.atI z.cps.toList i with
    | none => rw [e] at ht; exact ht.elim
    | some c => rw [e] at ht; exact .inr (.inr ⟨z, i, c, rfl, rfl, ht.1, e, hq _ _ F H n (.refl pb) (.str _) ht.2⟩)
  case tup.int a vs ds f ha hl i =>
    have ht : (match L2.atI ds i with
      | some d => (pure d : Wm D)
      | none => Wm.fail) Kd XFalse n := ht
    cases e : L2.atI ds i with
    | none => rw [e] at ht; exact ht.elim
    | some d =>
      rw [e] at ht
      obtain ⟨v, e1, hv⟩ := hl.atI e
      exact .inr (.inl ⟨a, vs, i, v, rfl, rfl, .of ha, e1, hq v d F H n (.refl pb) hv ht⟩)
  case lst.int a vs ds f ha hl i =>
    have ht : (match L2.atI ds i with
      | some d => (pure d : Wm D)
      | none => Wm.fail) Kd XFalse n := ht
    cases e : L2.atI ds i with
    | none => rw [e] at ht; exact ht.elim
    | some d =>
      rw [e] at ht
      obtain ⟨v, e1, hv⟩ := hl.atI e
      exact .inl ⟨a, vs, i, v, rfl, rfl, .of ha, e1, hq v d F H n (.refl pb) hv ht⟩
/-! ### isinstance, built-in classes -/
def tyD : D → Value
  | .non => .type "NoneType"
  | .bl _ => .type "bool"
  | .int _ => .type "int"
  | .str _ => .type "str"
  | .tup _ => .type "tuple"
  | .lst _ => .type "list"
  | .dic _ _ => .type "dict"
  | .pen => .type "dict"
  | .obj C _ _ => .ref C
  | .exc C _ _ => .ref C
  | .clo _ _ _ => .type "function"
  | .fnA _ => .type "function"
  | .scr _ _ _ => .type "list"
/-- what the class of an object must be, that isinstance may ask -/
structure IsiOk (K : PySem.W.Frag) (C : Addr) : Prop where
  cl : Cls K C
  ha : PySem.W.findIn K (.ref C) "__class__" = some (some (.builtin "object.__class__"))
  hn : PySem.W.specialIn K (.builtin "object.__class__") "__get__" = some (some (.builtin "getset_descriptor.__get__"))
  ht : PySem.W.takesIn K (.builtin "object.__class__") = some true
  hm : PySem.W.mroIn K C (.type "object") = some true
def tyOk (K : PySem.W.Frag) : D → Prop
  | .obj C _ _ => IsiOk K C
  | .exc _ _ _ => False
  | .clo _ _ _ => False
  | .fnA _ => False
  | .scr _ _ _ => False
  | _ => True
theorem Has.tyX {K : PySem.W.Frag} {F : Addr → Prop} {H : Hp} {v : V} {d : D} (h : Has F H v d) (ok : tyOk K d) : TyX K H v (tyD d) := by
  cases h with
  | non => exact .base .non
  | bl b => exact .base (.bl b)
  | int i => exact .base (.int i)
  | str x => exact .base (.str x)
  | tup f ha _ => exact .base (.tup ha)
  | lst f ha _ => exact .base (.lst ha)
  | dic f ha _ _ _ => exact .base (.dK ha)
  | obj f ha _ _ => exact .base (.ins ha ok.cl ok.ha ok.hn ok.ht ok.hm)
  | pen f ha _ _ _ _ => exact .base (.dK ha)
  | fnA _ => exact ok.elim
  | exc _ _ _ _ _ _ => exact ok.elim
  | exc0 _ _ => exact ok.elim
  | clo0 _ _ _ _ => exact ok.elim
  | scr _ _ => exact ok.elim
  | clo1 _ _ _ _ _ _ _ => exact ok.elim
def fIsi (K : PySem.W.Frag) (us : List Value) (d : D) : Wm D := do
  Wm.need (tyOk K d)
  match PySem.W.kitAny K (tyD d) us with
  | some b => pure (.bl b)
  | none => Wm.fail
def fIsi1 (K : PySem.W.Frag) (u : Value) (d : D) : Wm D := do
  Wm.need (tyOk K d)
  match PySem.W.kitOne K (tyD d) u with
  | some b => pure (.bl b)
  | none => Wm.fail
end
section
variable {ι : Type} {X : ι → Cx} {W : WX}
theorem DE.isi1 {a T : Expr} {c : V} {u : Value} {t : TD D} {p pos : Pos} {K : PySem.W.Frag} (hK : ∀ i, (X i).K = K) (hT : ∀ i, PE (X i) T (tC c)) (hc : ClsV c u) (hg : ∀ i, Gl (X i) "isinstance") (hm : ∀ i, (X i).mg "isinstance" = none) (h : DE X W a t)
    (h1 : ∀ i, starEach [a, T] (X i).env = (false, eval a (X i).env) :: starEach [T] (X i).env := by intro _; rfl) (h2 : ∀ i, starEach [T] (X i).env = (false, eval T (X i).env) :: starEach [] (X i).env := by intro _; rfl)
    (hpl : ∀ i, (backTo pos (starEach [T] (X i).env)).any (·.1) = false := by intro _; rfl) : DE X W (.Call (.Name "isinstance" p) [a, T] [] pos) (fun ρ => do fIsi1 K u (← t ρ)) := by
  obtain ⟨te, pe, r⟩ := h
  refine ⟨tCB (rIsi K) (tCons te (tCons (tC c) tNil)), fun i => by rw [← hK i]; exact pe_callB call_isi (hg i) (hm i) (by decide +kernel) (pa_cons (pe i) (pa_cons (hT i) pa_nil (h2 i)) (h1 i)) (by decide) (by decide) (h1 i) (hpl i), fun F H n σ ρ Kd Kx Q hs ht hq hx => ?_⟩
  refine r F H n σ ρ _ Kx _ hs ht (fun v d F1 H1 n1 g1 hv ht1 => ?_) hx
  obtain ⟨ok, hk⟩ := ht1
  cases e : PySem.W.kitOne K (tyD d) u with
  | none => rw [e] at hk; exact hk.elim
  | some b =>
    rw [e] at hk
    exact ⟨v, c, tyD d, u, b, rfl, hc, hv.tyX ok, e, hq _ _ F1 H1 n1 g1 (.bl b) hk⟩
end
end DL


set_option maxRecDepth 100000
set_option maxHeartbeats 2000000
/-! DL5: the pen; further operators. Own work. -/
namespace DL
open PySem PySem.Spec PyProof.Rows L2

/-! ### the pen's dict -/
section
variable {c : Addr} {p : Pen}
theorem pg_count : valV (penK c p) (.inr "count") = some (.int p.ct) := rfl
theorem pg_digits : valV (penK c p) (.inr "digits") = some (.int p.dg) := rfl
theorem pg_at : valV (penK c p) (.inr "at") = some (.int p.at_) := rfl
theorem pg_cells : valV (penK c p) (.inr "cells") = some (.ref c) := rfl
theorem pg_fold : valV (penK c p) (.inr "fold") = some (.int p.fd) := rfl
theorem pp_count {i : Int} : putK (penK c p) (.inr "count") (.int i) = penK c { p with ct := i } := rfl
theorem pp_digits {i : Int} : putK (penK c p) (.inr "digits") (.int i) = penK c { p with dg := i } := rfl
theorem pp_at {i : Int} : putK (penK c p) (.inr "at") (.int i) = penK c { p with at_ := i } := rfl
theorem pp_fold {i : Int} : putK (penK c p) (.inr "fold") (.int i) = penK c { p with fd := i } := rfl
end
theorem penLen (c : Addr) (p : Pen) : (penK c p).length < sizeLine := by
  rw [sizeLine_eq]
  show 5 < 16777216
  decide
abbrev tGet (k : Str) : TE := tDGet (tVar 0) (tC (.str k))
abbrev tPut (k : Str) (v : TE) : TS := sDPut (tVar 0) (tC (.str k)) v
theorem run_get {σ : L2.St} {H : Hp} {Q : VK} {a : Addr} {kvs : List (Key × V)} {k : Str} {v : V} (h0 : σ[0]? = some (some (.ref a))) (h : H a = some (.dK kvs)) (hv : valV kvs (.inr k) = some v) (q : Q v H) : tGet k σ H Q :=
  ⟨.ref a, h0, a, v, rfl, by rw [← hv]; exact DGet.k (k := .inr k) h, q⟩

abbrev tAddI (a b : TE) : TE := tOp (rI0 fun i j => .int (i + j)) a b
abbrev tSubI (a b : TE) : TE := tOp (rI0 fun i j => .int (i - j)) a b
abbrev tMulI (a b : TE) : TE := tOp (rI CMulW fun i j => .int (i * j)) a b
abbrev tModI (a b : TE) : TE := tOp (rI (fun _ j => j ≠ 0) fun i j => .int (i.fmod j)) a b
abbrev tDivI (a b : TE) : TE := tOp (rI CDivA fun i j => .int (i.fdiv j)) a b
abbrev tPowI (a b : TE) : TE := tOp (rI CPow fun i j => .int (i ^ j.toNat)) a b
abbrev tIntC (a : TE) : TE := tCB (fun xs H Q => (∃ i, xs = [V.int i] ∧ Q (.int i) H) ∨ ∃ k, xs = [V.bl k] ∧ Q (.int (if k then 1 else 0)) H) (tCons a tNil)
/-- what the text of _law_draw does; slots pen, many, cell, digit, blend -/
abbrev tDraw (K : PySem.W.Frag) : TS :=
  tSeq (tPut "count" (tAddI (tGet "count") (tC (.int 1))))
  (tSeq (tIfS (tAnd (tTest (tOp rEq (tGet "digits") (tC (.int 0)))) (tTest (tOp (rI0 fun i j => .bl (decide (i < j))) (tGet "at") (tCB (rLen K) (tCons (tGet "cells") tNil)))))
    (tSeq (tAsg (tOp (rIx K) (tGet "cells") (tGet "at")) (gName 2))
      (tSeq (tPut "at" (tAddI (tGet "at") (tC (.int 1))))
        (tIfS (tTest (tOp (rI0 fun i j => .bl (decide (j ≤ i))) (tVar 2) (tPowI (tC (.int 10)) (tC (.int 18)))))
          (tPut "digits" (tSubI (tVar 2) (tPowI (tC (.int 10)) (tC (.int 18)))))
          (tPut "fold" (tModI (tIntC (tAddI (tMulI (tGet "fold") (tC (.int 26701))) (tVar 2))) (tC (.int 2147483123)))))))
    tNext)
  (tSeq (tIfS (tTest (tOp (rI0 fun i j => .bl (decide (j < i))) (tGet "digits") (tC (.int 0))))
    (tSeq (tAsg (tModI (tIntC (tGet "digits")) (tVar 1)) (gName 3))
      (tSeq (tPut "digits" (tDivI (tGet "digits") (tVar 1))) (tRet (tVar 3))))
    tNext)
  (tSeq (tAsg (tAddI (tAddI (tGet "fold") (tMulI (tGet "count") (tC (.int 5443)))) (tC (.int 151))) (gName 4))
    (tRet (tModI (tDivI (tIntC (tModI (tPowI (tVar 4) (tC (.int 59))) (tC (.int 2305843009213693951)))) (tC (.int 256))) (tVar 1))))))

/-- the promise of _law_draw: any number below many -/
def drawW : List D → Wm D
  | [.pen, .int m] => fun K _ n => 0 < m ∧ m < 4294967296 ∧ n < 1099511627776 ∧ ∀ r : Int, 0 ≤ r → r < m → K (.int r) (n + 1)
  | _ => Wm.fail

theorem Grow.pen {F : Addr → Prop} {H : Hp} {n : Nat} {a c : Addr} {p p' : Pen} (pb : PenB F H n) (h : H a = some (.dK (penK c p))) (ok : p.Ok → p'.Ok) (ct : p'.ct ≤ ((n + 1 : Nat) : Int)) : Grow F H n F (upd H a (.dK (penK c p'))) (n + 1) where
  keep := fun b o e => by
    by_cases hb : b = a
    · subst hb
      rw [h] at e
      cases e
      exact .inr (.inl ⟨c, p, p', rfl, upd_same, ok⟩)
    · exact .inl (by rw [upd_ne hb]; exact e)
  sub := fun _ f => f
  new := fun _ f => .inl f
  pb := ⟨fun b c2 q e => by
    by_cases hb : b = a
    · subst hb
      rw [upd_same] at e
      obtain ⟨_, rfl⟩ := penK_inj (HO.dK.inj (Option.some.inj e))
      exact ct
    · rw [upd_ne hb] at e
      have := pb.ct b c2 q e
      omega, fun b f => by
    by_cases hb : b = a
    · subst hb; exact ⟨_, upd_same⟩
    · rw [upd_ne hb]; exact pb.dom b f, fun P ps e => by
    by_cases hb : P = a
    · subst hb
      rw [upd_same] at e
      cases e
    · rw [upd_ne hb] at e
      refine (pb.tb P ps e).mono (fun _ f => f) fun d _ q => ?_
      rw [upd_ne (fun e => by rw [e, h] at q; cases q)]
      exact q⟩
  le := by omega

theorem pow10 : ((10 : Int) ^ (18 : Int).toNat) = 1000000000000000000 := by decide
theorem cpow10 : CPow 10 18 := ⟨by decide, by decide, by decide⟩
/-- the last rows: by the fold -/
theorem draw_last {K : PySem.W.Frag} {F : Addr → Prop} {H0 H : Hp} {n : Nat} {a c : Addr} {m : Int} {p p0 : Pen} {σ : L2.St} {Q : VK} {D : Ends} (hd : D.rt = Q) (h0 : σ[0]? = some (some (.ref a))) (h1 : σ[1]? = some (some (.int m))) (hl : σ.length = 5)
    (h : H a = some (.dK (penK c p))) (ok : p.Ok) (hn : p.ct ≤ 1099511627777) (hm : 0 < m)
    (q : ∀ r : Int, 0 ≤ r → r < m → Q (.int r) H) :
    (tSeq (tAsg (tAddI (tAddI (tGet "fold") (tMulI (tGet "count") (tC (.int 5443)))) (tC (.int 151))) (gName 4))
    (tRet (tModI (tDivI (tIntC (tModI (tPowI (tVar 4) (tC (.int 59))) (tC (.int 2305843009213693951)))) (tC (.int 256))) (tVar 1)))) D σ H := by
  have f0 := ok.fd0
  have f1 := ok.fd1
  have c0 := ok.ct0
  refine run_get h0 h pg_fold ?_
  refine run_get h0 h pg_count ⟨_, _, rfl, rfl, ?_, ⟨_, _, rfl, rfl, ⟨_, _, rfl, rfl, ?_⟩⟩⟩
  · exact wide_mul (a := 41) (b := 13) (by omega) (by decide) (by decide) (by decide) (by decide)
  -- the store
  have h4 : (σ.set 4 (some (.int (p.fd + p.ct * 5443 + 151))))[4]? = some (some (.int (p.fd + p.ct * 5443 + 151))) := List.getElem?_set_self (by omega)
  have h1' : (σ.set 4 (some (.int (p.fd + p.ct * 5443 + 151))))[1]? = some (some (.int m)) := by rw [List.getElem?_set_ne (by decide)]; exact h1
  refine ⟨_, h4, ⟨_, _, rfl, rfl, ⟨by decide, by decide, by omega⟩, ⟨_, _, rfl, rfl, (show (2305843009213693951 : Int) ≠ 0 by decide), ?_⟩⟩⟩
  refine .inl ⟨_, rfl, ⟨_, _, rfl, rfl, ⟨by decide, by decide⟩, ⟨_, h1', ⟨_, _, rfl, rfl, (by omega : m ≠ 0), ?_⟩⟩⟩⟩
  show D.rt (.int (Int.fmod _ m)) H
  rw [hd]
  rw [Int.fmod_eq_emod_of_nonneg _ (by omega : 0 ≤ m)]
  exact q _ (Int.emod_nonneg _ (by omega)) (Int.emod_lt_of_pos _ hm)
/-- from the digits on -/
theorem draw_digits {K : PySem.W.Frag} {F : Addr → Prop} {H : Hp} {a c : Addr} {m : Int} {p : Pen} {σ : L2.St} {Q : VK} {D : Ends} (hd : D.rt = Q) (h0 : σ[0]? = some (some (.ref a))) (h1 : σ[1]? = some (some (.int m))) (hl : σ.length = 5)
    (h : H a = some (.dK (penK c p))) (ok : p.Ok) (hn : p.ct ≤ 1099511627777) (hm : 0 < m) (hm2 : m < 4294967296)
    (q : ∀ (r : Int) (p' : Pen), 0 ≤ r → r < m → p'.Ok → p'.ct = p.ct → Q (.int r) (upd H a (.dK (penK c p')))) :
    (tSeq (tIfS (tTest (tOp (rI0 fun i j => .bl (decide (j < i))) (tGet "digits") (tC (.int 0))))
    (tSeq (tAsg (tModI (tIntC (tGet "digits")) (tVar 1)) (gName 3))
      (tSeq (tPut "digits" (tDivI (tGet "digits") (tVar 1))) (tRet (tVar 3))))
    tNext)
  (tSeq (tAsg (tAddI (tAddI (tGet "fold") (tMulI (tGet "count") (tC (.int 5443)))) (tC (.int 151))) (gName 4))
    (tRet (tModI (tDivI (tIntC (tModI (tPowI (tVar 4) (tC (.int 59))) (tC (.int 2305843009213693951)))) (tC (.int 256))) (tVar 1))))) D σ H := by
  refine run_get h0 h pg_digits ⟨_, _, rfl, rfl, _, rfl, ?_⟩
  by_cases hdg : 0 < p.dg
  · rw [decide_eq_true hdg]
    refine iteT ?_
    refine run_get h0 h pg_digits (.inl ⟨_, rfl, ⟨_, h1, ⟨_, _, rfl, rfl, (by omega : m ≠ 0), ?_⟩⟩⟩)
    have h0' : (σ.set 3 (some (.int (p.dg.fmod m))))[0]? = some (some (.ref a)) := by rw [List.getElem?_set_ne (by decide)]; exact h0
    have h1' : (σ.set 3 (some (.int (p.dg.fmod m))))[1]? = some (some (.int m)) := by rw [List.getElem?_set_ne (by decide)]; exact h1
    have h3' : (σ.set 3 (some (.int (p.dg.fmod m))))[3]? = some (some (.int (p.dg.fmod m))) := List.getElem?_set_self (by omega)
    have hlg : m.natAbs.log2 < 9000 := Nat.lt_of_lt_of_le (PySem.Flt.log2_lt_of (n := m.natAbs) (k := 32) (by decide) (by omega)) (by decide)
    refine run_get h0' h pg_digits ⟨_, h1', ⟨_, _, rfl, rfl, ⟨by omega, hlg⟩, ?_⟩⟩
    refine ⟨_, h0', a, _, rfl, DPut.k (k := .inr "digits") h (penLen _ _), ?_⟩
    rw [pp_digits]
    refine ⟨_, h3', ?_⟩
    show D.rt _ _
    rw [hd, Int.fmod_eq_emod_of_nonneg _ (by omega : 0 ≤ m)]
    refine q _ _ (Int.emod_nonneg _ (by omega)) (Int.emod_lt_of_pos _ hm) ⟨ok.at0, ?_, ok.ct0, ok.fd0, ok.fd1⟩ rfl
    show 0 ≤ p.dg.fdiv m
    rw [Int.fdiv_eq_ediv_of_nonneg _ (by omega)]
    exact Int.ediv_nonneg (by omega) (by omega)
  · rw [decide_eq_false hdg]
    refine iteF ?_
    refine draw_last (K := K) (F := F) (H0 := H) (n := 0) (p0 := p) hd h0 h1 hl h ok hn hm fun r r0 r1 => ?_
    have e : upd H a (.dK (penK c p)) = H := by
      funext b
      by_cases hb : b = a
      · rw [hb, upd_same, h]
      · rw [upd_ne hb]
    rw [← e]
    exact q r p r0 r1 ok rfl
theorem run_draw {K : PySem.W.Frag} {F : Addr → Prop} {H : Hp} {n : Nat} {v1 v2 : V} {m : Int} {Q : VK} {D : Ends} {N : List Str} (hN : N.length = 5) (hd : D.rt = Q) (pb : PenB F H n) (hv : Has F H v1 .pen) (hv2 : Has F H v2 (.int m)) (hm : 0 < m) (hm2 : m < 4294967296) (hn : n < 1099511627776)
    (q : ∀ (r : Int) (H' : Hp), Grow F H n F H' (n + 1) → 0 ≤ r → r < m → Q (.int r) H') : tDraw K D (L2.start N [v1, v2]) H := by
  cases hv2
  cases hv with
  | @pen a c p ns fa ha ok fc hc hl =>
  have hct := pb.ct a c p ha
  have hlen : ∀ vs : List V, vs.length = 2 → (L2.start N vs).length = 5 := fun vs h => by simp [L2.start, hN, h]
  have h0 : (L2.start N [.ref a, .int m])[0]? = some (some (.ref a)) := rfl
  have h1 : (L2.start N [.ref a, .int m])[1]? = some (some (.int m)) := rfl
  have hl5 := hlen [.ref a, .int m] rfl
  generalize L2.start N [.ref a, .int m] = σ at h0 h1 hl5
  -- count
  refine run_get h0 ha pg_count ⟨_, _, rfl, rfl, ?_⟩
  refine ⟨_, h0, a, _, rfl, DPut.k (k := .inr "count") ha (penLen _ _), ?_⟩
  rw [pp_count]
  have hne : c ≠ a := fun e => by rw [e, ha] at hc; cases hc
  have ok1 : ({ p with ct := p.ct + 1 } : Pen).Ok := ⟨ok.at0, ok.dg0, by have := ok.ct0; show 0 ≤ p.ct + 1; omega, ok.fd0, ok.fd1⟩
  have key : ∀ (σ' : L2.St) (p' : Pen), σ'[0]? = some (some (.ref a)) → σ'[1]? = some (some (.int m)) → σ'.length = 5 → p'.Ok → p'.ct = p.ct + 1 →
      (tSeq (tIfS (tTest (tOp (rI0 fun i j => .bl (decide (j < i))) (tGet "digits") (tC (.int 0))))
        (tSeq (tAsg (tModI (tIntC (tGet "digits")) (tVar 1)) (gName 3))
          (tSeq (tPut "digits" (tDivI (tGet "digits") (tVar 1))) (tRet (tVar 3))))
        tNext)
      (tSeq (tAsg (tAddI (tAddI (tGet "fold") (tMulI (tGet "count") (tC (.int 5443)))) (tC (.int 151))) (gName 4))
        (tRet (tModI (tDivI (tIntC (tModI (tPowI (tVar 4) (tC (.int 59))) (tC (.int 2305843009213693951)))) (tC (.int 256))) (tVar 1))))) D σ' (upd H a (.dK (penK c p'))) := fun σ' p' e0 e1 el okp ec => by
    refine draw_digits (K := K) (F := F) hd e0 e1 el upd_same okp (by rw [ec]; omega) hm hm2 fun r p2 r0 r1 ok2 e2 => ?_
    rw [upd_upd]
    exact q r _ (.pen pb ha (fun _ => ok2) (by rw [e2, ec]; omega)) r0 r1
  -- the cell
  have hb : (upd H a (.dK (penK c { p with ct := p.ct + 1 }))) a = some (.dK (penK c { p with ct := p.ct + 1 })) := upd_same
  have hcb : (upd H a (.dK (penK c { p with ct := p.ct + 1 }))) c = some (.lst (ns.map V.int)) := by rw [upd_ne hne]; exact hc
  refine run_get h0 hb pg_digits ⟨rfl, _, rfl, ?_⟩
  by_cases hz : p.dg = 0
  · have e : decide (V.int p.dg = V.int 0) = true := by rw [hz]; rfl
    show if decide (V.int p.dg = V.int 0) = true then _ else _
    rw [e]
    refine iteT ?_
    refine run_get h0 hb pg_at (run_get h0 hb pg_cells (.inl ⟨c, ns.map V.int, rfl, .inl (.of hcb), ⟨_, _, rfl, rfl, _, rfl, ?_⟩⟩))
    by_cases hat : p.at_ < ((ns.map V.int).length : Int)
    · rw [decide_eq_true hat]
      refine iteT ?_
      have a0 := ok.at0
      have hjl : p.at_.toNat < ns.length := by simp at hat; omega
      have hix : L2.atI (ns.map V.int) p.at_ = some (.int ns[p.at_.toNat]) := by
        have e1 : L2.ixN (ns.map V.int).length p.at_ = some p.at_.toNat := by
          unfold L2.ixN
          simp only [List.length_map]
          rw [if_pos a0, if_pos (by simpa using hat)]
        unfold L2.atI
        rw [e1]
        simp [hjl]
      refine run_get h0 hb pg_cells (run_get h0 hb pg_at (.inl ⟨c, ns.map V.int, _, _, rfl, rfl, .of hcb, hix, ?_⟩))
      generalize ns[p.at_.toNat] = cell
      have h0' : (σ.set 2 (some (.int cell)))[0]? = some (some (.ref a)) := by rw [List.getElem?_set_ne (by decide)]; exact h0
      have h1' : (σ.set 2 (some (.int cell)))[1]? = some (some (.int m)) := by rw [List.getElem?_set_ne (by decide)]; exact h1
      have h2' : (σ.set 2 (some (.int cell)))[2]? = some (some (.int cell)) := List.getElem?_set_self (by omega)
      have hl' : (σ.set 2 (some (.int cell))).length = 5 := by simp [hl5]
      refine run_get h0' hb pg_at ⟨_, _, rfl, rfl, ?_⟩
      refine ⟨_, h0', a, _, rfl, DPut.k (k := .inr "at") hb (penLen _ _), ?_⟩
      rw [pp_at, upd_upd]
      refine ⟨_, h2', ⟨_, _, rfl, rfl, cpow10, ⟨_, _, rfl, rfl, _, rfl, ?_⟩⟩⟩
      rw [pow10]
      have hb2 : (upd H a (.dK (penK c { p with at_ := p.at_ + 1, ct := p.ct + 1 }))) a = some (.dK (penK c { p with at_ := p.at_ + 1, ct := p.ct + 1 })) := upd_same
      by_cases hbig : (1000000000000000000 : Int) ≤ cell
      · rw [decide_eq_true hbig]
        refine iteT ?_
        refine ⟨_, h2', ⟨_, _, rfl, rfl, cpow10, ⟨_, _, rfl, rfl, ?_⟩⟩⟩
        refine ⟨_, h0', a, _, rfl, DPut.k (k := .inr "digits") hb2 (penLen _ _), ?_⟩
        rw [pp_digits, upd_upd, pow10]
        exact key _ _ h0' h1' hl' ⟨by show 0 ≤ p.at_ + 1; omega, by show 0 ≤ cell - 1000000000000000000; omega, ok1.ct0, ok.fd0, ok.fd1⟩ rfl
      · rw [decide_eq_false hbig]
        refine iteF ?_
        refine run_get h0' hb2 pg_fold ⟨_, _, rfl, rfl, ?_, ⟨_, h2', ⟨_, _, rfl, rfl, .inl ⟨_, rfl, ⟨_, _, rfl, rfl, (show (2147483123 : Int) ≠ 0 by decide), ?_⟩⟩⟩⟩⟩
        · have f0 := ok.fd0
          have f1 := ok.fd1
          exact wide_mul (a := 32) (b := 15) (by show p.fd.natAbs < _; omega) (by decide) (by decide) (by decide) (by decide)
        refine ⟨_, h0', a, _, rfl, DPut.k (k := .inr "fold") hb2 (penLen _ _), ?_⟩
        rw [pp_fold, upd_upd]
        refine key _ _ h0' h1' hl' ⟨by show 0 ≤ p.at_ + 1; omega, ok.dg0, ok1.ct0, ?_, ?_⟩ rfl
        · show 0 ≤ Int.fmod _ _
          rw [Int.fmod_eq_emod_of_nonneg _ (by decide)]
          exact Int.emod_nonneg _ (by decide)
        · show Int.fmod _ _ < _
          rw [Int.fmod_eq_emod_of_nonneg _ (by decide)]
          exact Int.emod_lt_of_pos _ (by decide)
    · rw [decide_eq_false hat]
      refine iteF ?_
      exact key σ _ h0 h1 hl5 ok1 rfl
  · have e : decide (V.int p.dg = V.int 0) = false := decide_eq_false fun z => hz (V.int.inj z)
    show if decide (V.int p.dg = V.int 0) = true then _ else _
    rw [e]
    refine iteF ?_
    exact iteF (key σ _ h0 h1 hl5 ok1 rfl)

/-! ### _law_pen -/
/-- list(script) and the dict -/
def penF (K : PySem.W.Frag) : D → D → Wm D
  | .scr K' ns _, .int f => do Wm.need (K' = K ∧ ns.length ≤ 63 ∧ 0 ≤ f ∧ f < 2147483123); pure .pen
  | _, _ => Wm.fail
def penD (K : PySem.W.Frag) (i j : Nat) : TD D := fun ρ => do let s ← getD i ρ; let f ← getD j ρ; penF K s f
theorem getD_run {i : Nat} {ρ : Env'} {K : D → Nat → Prop} {X : XD → Nat → Prop} {n : Nat} (h : getD i ρ K X n) : ∃ x, ρ[i]? = some (some (.d x)) ∧ K x n := by
  unfold getD at h
  match e : ρ[i]? with
  | some (some (.d x)) => rw [e] at h; exact ⟨x, rfl, h⟩
  | some (some (.ml _)) => rw [e] at h; exact h.elim
  | some none => rw [e] at h; exact h.elim
  | none => rw [e] at h; exact h.elim
abbrev tPenDict (K : PySem.W.Frag) (i j : Nat) : TE :=
  tDisp [(tC (.str "cells"), tCB (fun xs H Q => ∃ p ys, xs = [.ref p] ∧ (SqL K H p ys ∨ SqT K H p ys) ∧ ∀ l, H l = none → Q (.ref l) (upd H l (.lst ys))) (tCons (tVar i) tNil)), (tC (.str "at"), tC (.int 0)), (tC (.str "digits"), tC (.int 0)), (tC (.str "count"), tC (.int 0)), (tC (.str "fold"), tVar j)]
theorem run_pen {K : PySem.W.Frag} {W : WX} {i j : Nat} : RunE W (tPenDict K i j) (penD K i j) := by
  intro F H n σ ρ Kd Kx Q hs ht hq hx
  obtain ⟨x, e1, ht1⟩ := getD_run (show getD i ρ (fun s n' => (do let f ← getD j ρ; penF K s f : Wm D) Kd Kx n') Kx n from ht)
  obtain ⟨y, e2, ht2⟩ := getD_run (show getD j ρ (fun f n' => penF K x f Kd Kx n') Kx n from ht1)
  have ht3 : penF K x y Kd Kx n := ht2
  clear ht ht1 ht2
  obtain ⟨v1, s1, hv1⟩ := hs.at_ _ _ e1
  obtain ⟨v2, s2, hv2⟩ := hs.at_ _ _ e2
  have hv1 : Has F H v1 x := hv1
  have hv2 : Has F H v2 y := hv2
  cases hv1 <;> try exact ht3.elim
  rename_i a K' ns tabs hsc _
  cases hv2 <;> try exact ht3.elim
  rename_i f
  obtain ⟨⟨hK, hl, f0, f1⟩, hk⟩ := ht3
  subst hK
  intro p hp
  have hsq : SqL K' (upd H p (.dK [])) a (ns.map V.int) := hsc.elim (fun ⟨o, fa, e⟩ => .inl (.inr ⟨o, by rw [upd_ne (ne_of_none e hp)]; exact e⟩)) (fun k => k _)
  refine ⟨_, s1, a, _, rfl, .inl hsq, fun l hl0 => ?_⟩
  have hlp : l ≠ p := fun e => by rw [e, upd_same] at hl0; cases hl0
  have hl1 : H l = none := by rw [upd_ne hlp] at hl0; exact hl0
  refine ⟨_, s2, ?_, [(.inr "cells", .ref l), (.inr "at", .int 0), (.inr "digits", .int 0), (.inr "count", .int 0), (.inr "fold", .int f)], rfl, by show 5 ≤ 15; decide, ?_⟩
  · rw [upd_ne (Ne.symm hlp), upd_same]
  have em : mergeK [] [((.inr "cells" : Key), V.ref l), (.inr "at", .int 0), (.inr "digits", .int 0), (.inr "count", .int 0), (.inr "fold", .int f)] = penK l ⟨0, 0, 0, f⟩ := rfl
  rw [em]
  have ne : ∀ {b : Addr} {o : HO}, H b = some o → b ≠ p ∧ b ≠ l := fun e => ⟨ne_of_none e hp, ne_of_none e hl1⟩
  have at_ : ∀ b, b ≠ p → b ≠ l → upd (upd (upd H p (.dK [])) l (.lst (ns.map V.int))) p (.dK (penK l ⟨0, 0, 0, f⟩)) b = H b := fun b h1 h2 => by rw [upd_ne h1, upd_ne h2, upd_ne h1]
  refine hq _ .pen (fun b => F b ∨ b = p ∨ b = l) _ n ⟨fun b o e => .inl (by rw [at_ b (ne e).1 (ne e).2]; exact e), fun b fb => .inl fb, fun b fb => ?_, ⟨fun b c q e => ?_, fun b fb => ?_, fun P ps e => ?_⟩, Nat.le_refl _⟩ ?_ hk
  · rcases fb with fb | rfl | rfl
    · exact .inl fb
    · exact .inr hp
    · exact .inr hl1
  · by_cases hb : b = p
    · subst hb
      rw [upd_same] at e
      obtain ⟨_, rfl⟩ := penK_inj (HO.dK.inj (Option.some.inj e))
      exact Int.natCast_nonneg n
    · by_cases hb2 : b = l
      · subst hb2
        rw [upd_ne hb, upd_same] at e
        cases e
      · rw [at_ b hb hb2] at e
        exact hs.pb.ct b c q e
  · by_cases hb : b = p
    · subst hb; exact ⟨_, upd_same⟩
    · by_cases hb2 : b = l
      · subst hb2; exact ⟨_, by rw [upd_ne hb, upd_same]⟩
      · rw [at_ b hb hb2]
        exact hs.pb.dom b (fb.resolve_right fun z => z.elim hb hb2)
  · by_cases hb : P = p
    · subst hb; rw [upd_same] at e; cases e
    · by_cases hb2 : P = l
      · subst hb2; rw [upd_ne hb, upd_same] at e; cases e
      · rw [at_ P hb hb2] at e
        exact (hs.pb.tb P ps e).mono (fun _ => .inl) fun d _ q => by rw [at_ d (ne q).1 (ne q).2]; exact q
  · refine .pen (c := l) (p := ⟨0, 0, 0, f⟩) (ns := ns) (.inr (.inl rfl)) upd_same ⟨Int.le_refl 0, Int.le_refl 0, Int.le_refl 0, f0, f1⟩ (.inr (.inr rfl)) ?_ hl
    rw [upd_ne hlp, upd_same]
theorem DE.pen {ι : Type} {X : ι → Cx} {W : WX} {K : PySem.W.Frag} {i j : Nat} {e : Expr} (h : ∀ k, PE (X k) e (tPenDict K i j)) : DE X W e (penD K i j) := ⟨_, h, run_pen⟩

/-- what comes of one's text, in a word -/
theorem draw_ok {P : Program} {w : World} {K : PySem.W.Frag} {mg : Str → Option Value} {base : Heap} {x qual : Str} {st : Stmt} {f : Addr} {fd : FuncData} {N ps : List Str} {k : Nat} (F : Fun K x qual st f fd) (S : FnScope N ps (defScope st)) (hN : N.length = 5) (hps : ps.length = 2)
    (hbody : ∀ (cdv : Value) (A : Around) (outer : List Env) (s : Shared) (H : Hp) (E : XK), A.guards = some [] → Room k (A.deeper (envOfC qual (defScope st) s.heap.objs.size f cdv)) → PSs (cxOf (L2.CX P w) P w K mg base N qual (defScope st) f cdv A outer s H E) (defBody st) (tDraw K)) :
    FnG P w K mg base (k + 1) f fd ps (spD 2 drawW) := by
  refine FnG.of F S (fun vs H Q E h => by rw [hps]; exact h.1) fun cdv _ A outer s H vs Q E hg hr h => ?_
  obtain ⟨hl, F0, n, ds, Kd, Kx, pb, hv, hw', hq, hx⟩ := h
  refine ⟨_, hbody cdv A outer s H E hg hr, ?_⟩
  cases hv with
  | nil => exact hw'.elim
  | cons h1 hv =>
  cases hv with
  | nil => cases h1 <;> exact hw'.elim
  | cons h2 hv =>
  cases hv with
  | cons _ _ => cases h1 <;> cases h2 <;> exact hw'.elim
  | nil =>
  cases h1 <;> try exact hw'.elim
  cases h2 <;> try exact hw'.elim
  obtain ⟨m0, m1, n0, hk⟩ := hw'
  rename_i h1 ok1 fc1 hc1 hl1 m
  exact run_draw hN rfl pb (.pen (by assumption) (by assumption) (by assumption) (by assumption) (by assumption) (by assumption)) (.int _) m0 m1 n0 fun r H' g r0 r1 => hq _ _ F0 H' _ g (.int r) (hk r r0 r1)
end DL


set_option maxRecDepth 100000
set_option maxHeartbeats 2000000
/-! DL6: try with several clauses that bear a name; raise; own errors. Own work over HandS. -/
namespace DL
open PySem PySem.Spec PyProof.Rows L2

/-- behind a suite with a name: the name is gone -/
abbrev goneD (i : Nat) (D : Ends) : Ends := { nx := fun σ' H' => D.nx (σ'.set i none) H', rt := D.rt, bk := fun σ' H' => D.bk (σ'.set i none) H', ct := fun σ' H' => D.ct (σ'.set i none) H' }
/-- what the clauses wish of an exception of the body, one after the other; slot i is the name's -/
def wNamed (K : PySem.W.Frag) (i : Nat) (Wout : WX) (D : Ends) : List (Value × (Addr → Value → Option Addr → TS)) → WX
  | [] => Wout
  | (c, ts) :: r => fun cls d σ H => ∃ b, PySem.W.exmOne K cls c = some b ∧ (b = true → ∀ a, H a = none → ts a cls d (goneD i D) (σ.set i (some (.ref a))) H) ∧ (b = false → wNamed K i Wout D r cls d σ H)
inductive HdsN (X : Cx) (n : Str) : List ExceptHandler → List (Value × (Addr → Value → Option Addr → TS)) → Prop
  | nil : HdsN X n [] []
  | cons {x : Str} {c : Value} {ts : Addr → Value → Option Addr → TS} {b₀ : Stmt} {suite : List Stmt} {np pos' : Pos} {hds : List ExceptHandler} {l : List (Value × (Addr → Value → Option Addr → TS))} (hc : Names X x c)
      (hsu : ∀ (a : Addr) (oe : Obj) (cls : Value) (d : Option Addr) (pn : List (Addr × Obj)), Zc cls d oe → (∃ vs, oe.data = .fields vs) → PSs (X.suite a ((a, oe) :: pn)) (b₀ :: suite) (ts a cls d)) (r : HdsN X n hds l) :
      HdsN X n (.ExceptHandler (some (.Name x np)) (some n) (b₀ :: suite) pos' :: hds) ((c, ts) :: l)
section
variable {X : Cx} {n : Str} {i : Nat} {body : List Stmt} {h₀ : ExceptHandler} {hds : List ExceptHandler} {l : List (Value × (Addr → Value → Option Addr → TS))} {pos : Pos} {tb : WX → TS} {Wout : WX}
theorem ps_try_named (hs : X.stack = X.env :: X.outer) (hf : X.env.frame = some X.env.locals) (hN : X.N.Nodup) (hi : X.N[i]? = some n) (hln : X.env.kindOf n = some .local) (tk : Takes X Wout)
    (hb : ∀ (W : WX) (pn : List (Addr × Obj)) (xe : Value → Shared → Prop), Takes (X.tr pn xe) W → PSs (X.tr pn xe) body (tb W))
    (hh : HdsN X n (h₀ :: hds) l) : PS X (.Try body (h₀ :: hds) [] [] pos) (fun D σ H => tb (wNamed X.K i Wout D l) D σ H) := by
  refine ⟨fun pins s σ H D I h => ?_⟩
  have ok := I.ok
  have hfr : X.A.frames = some (X.env :: X.outer) := by rw [ok.frames, hs]
  have hloc : Loc X.env.scope n := .inl hln
  refine wpAny_Try_except ?_
  refine wpAny_mono ((hb (wNamed X.K i Wout D l) (X.pn ++ pins) _ (fun u s' xx => ?_)).run [] s σ H D (I.toTry _) h) (fun f s1 hsp => ?_) (fun e s1 he => he)
  · obtain ⟨a, B, sI, pins', σ', H', cls, d, rfl, J', nb, up, sky, na, os, ag, w⟩ := xx
    have J : Inv X pins σ' H' sI := J'.ofTry ok
    have sky' : Sky B (X.env :: X.outer) a (Zc cls d) X.env.locals s'.heap := by rw [← hs]; exact sky
    refine Sky.land Zc.steady hfr hf sky' fun h3 fl3 up3 => ?_
    have J3 : Inv X pins σ' H' { s' with heap := h3 } := J.landed nb fl3.1 (up.trans up3) os ag
    obtain ⟨oe3, vs3, he3, hz3, hd3⟩ := fl3.there
    have off : a ∉ frs (X.env :: X.outer) := fun hm => by
      obtain ⟨_, o', e', hnf⟩ := fl3.2.2.1.mem hm
      rw [he3] at e'
      cases e'
      exact hnf _ hd3
    have nL : a ≠ X.env.locals := fun z => off (List.mem_filterMap.mpr ⟨X.env, List.mem_cons_self, by rw [hf, z]⟩)
    have nF : a ∉ X.fs := fun hm => by
      obtain ⟨e, he, q⟩ := List.mem_filterMap.mp hm
      exact off (List.mem_filterMap.mpr ⟨e, List.mem_cons_of_mem _ he, q⟩)
    have S3 := J3.suite he3 hd3 na nL nF
    suffices go : ∀ (hds' : List ExceptHandler) (l' : List (Value × (Addr → Value → Option Addr → TS))), HdsN X n hds' l' → wNamed X.K i Wout D l' cls d σ' H' →
        wpAny (model X.prog X.w) X.A (handleBy (.ref a) X.env hds') (SP X pins D) X.xe { s' with heap := h3 } from go _ _ hh w
    intro hds' l' hk
    induction hk with
    | nil =>
      intro w
      refine wpAny_handleBy_nil ?_
      obtain ⟨k1, k2, k3, oe, vs, T, oT, ts', he, hz, hd, h1, hr⟩ := id fl3
      unfold PySem.passOn
      refine wpAny_bind (wpAny_field he hd h1 ?_)
      rw [if_neg (show ¬ ((Value.ref T == Value.none) = true) from by simp)]
      have out : wpAny (model X.prog X.w) X.A (setFlight (.ref a) X.env.frame) (fun _ s4 => wpAny (model X.prog X.w) X.A (throw (.ref a) : Sem Flow) (SP X pins D) X.xe s4) X.xe { s' with heap := h3 } := by
        rw [hf]
        exact HandSPX.setFlight_upZ fl3 fun h4 hh4 up4 => wpAny_throw (tk _ _ ⟨a, B, sI, pins, σ', H', cls, d, rfl, J, nb, (up.trans up3).trans up4, .inr (.inr (by rw [hs]; exact hh4)), na, os, ag, w⟩)
      first
        | exact wpAny_bind (wpAny_pure (wpAny_bind out))
        | exact wpAny_bind out
    | @cons x c ts b₀ suite np pos' hds2 l2 hc hsu r ih =>
      intro w
      obtain ⟨b, hb1, hyes, hno⟩ := w
      refine wpAny_handleBy_cons (codeAny_handlers_test ?_) (by intro q; cases q)
      have LM := PySem.W.exm_one (M := model X.prog X.w) (J3.kIn) (fun A Q E s k q => wpAny_typeOf_ref (k _ _ he3) (by rw [hz3.1]; exact q)) hb1
      have test : ∀ {Q : Value → Shared → Prop} {E : Value → Shared → Prop}, Q c { s' with heap := h3 } → wpAny (model X.prog X.w) (X.A.mark (some (.ref a))) (eval (.Name x np) X.env) Q E { s' with heap := h3 } := fun {Q E} q => by
        obtain ⟨hg, hdbg, hm | ⟨hm, hv, hnn⟩⟩ := hc
        · exact ld_glob (X := X.suite a ((a, oe3) :: (X.pn ++ pins))) S3 hg hm q hdbg
        · exact ld_blt (X := X.suite a ((a, oe3) :: (X.pn ++ pins))) S3 hg hm hv q hnn hdbg
      refine test (LM.here ?_)
      cases b with
      | false => exact ih (hno rfl)
      | true =>
        refine codeAny_handlers_suite_as ?_
        refine HandSPX.lands_againZ fl3 fun h4 fl4 up4 => ?_
        have J4 : Inv X pins σ' H' { s' with heap := h4 } := J.landed nb fl4.1 ((up.trans up3).trans up4) os ag
        obtain ⟨oe4, vs4, he4, hz4, hd4⟩ := fl4.there
        refine store_ok (X := X.suite a ((a, oe4) :: (X.pn ++ pins))) (v := .ref a) (J4.suite he4 hd4 na nL nF) hN hi hloc rfl (fun s5 S5 => ?_) (.inr hln)
        refine wpAny_mono ((hsu a oe4 cls d (X.pn ++ pins) hz4 ⟨_, hd4⟩).run [] s5 _ H' (goneD i D) S5 (hyes rfl a na)) (fun f s6 hsp => ?_) (fun _ _ z => False.elim z)
        cases f with
        | ret u =>
          obtain ⟨v6, σ6, H6, S6, r6, q6⟩ := hsp
          exact gone_ok (S6.unsuite ok) hN hi hln fun s7 J7 => ⟨_, _, _, J7, r6, q6⟩
        | next =>
          obtain ⟨σ6, H6, S6, q6⟩ := hsp
          exact gone_ok (S6.unsuite ok) hN hi hln fun s7 J7 => ⟨_, _, J7, q6⟩
        | brk =>
          obtain ⟨σ6, H6, S6, q6⟩ := hsp
          exact gone_ok (S6.unsuite ok) hN hi hln fun s7 J7 => ⟨_, _, J7, q6⟩
        | cont =>
          obtain ⟨σ6, H6, S6, q6⟩ := hsp
          exact gone_ok (S6.unsuite ok) hN hi hln fun s7 J7 => ⟨_, _, J7, q6⟩
  · cases f with
    | ret u =>
      obtain ⟨v, σ', H', J', r, q⟩ := hsp
      exact ⟨v, σ', H', J'.ofTry ok, r, q⟩
    | next =>
      obtain ⟨σ', H', J', q⟩ := hsp
      exact wpAny_execs_nil ⟨σ', H', J'.ofTry ok, q⟩
    | brk =>
      obtain ⟨σ', H', J', q⟩ := hsp
      exact ⟨σ', H', J'.ofTry ok, q⟩
    | cont =>
      obtain ⟨σ', H', J', q⟩ := hsp
      exact ⟨σ', H', J'.ofTry ok, q⟩
end

/-! ### suites: return a tuple of texts and fields of what was caught -/
/-- an item: a text, or a field -/
abbrev FIt := Str × Bool
inductive FItems (X : Cx) (i : Nat) : List Expr → List FIt → Prop
  | nil : FItems X i [] []
  | str {x : Str} {j : Nat} {pos : Pos} {es : List Expr} {l : List FIt} (r : FItems X i es l) (hs : starEach (.Constant (.str x) j pos :: es) X.env = (false, eval (.Constant (.str x) j pos) X.env) :: starEach es X.env := by rfl) : FItems X i (.Constant (.str x) j pos :: es) ((x, false) :: l)
  | fld {x n : Str} {p pos : Pos} {es : List Expr} {l : List FIt} (hN : X.N[i]? = some n) (hv : Vis X.env.scope n) (hd : (n == ("__debug__" : Str)) = false) (hcd : (n == ("__classdict__" : Str)) = false) (r : FItems X i es l)
      (hs : starEach (.Attribute (.Name n p) x pos :: es) X.env = (false, eval (.Attribute (.Name n p) x pos) X.env) :: starEach es X.env := by rfl)
      (hb : attributeBase (.Name n p) x X.env (eval (.Name n p) X.env) = eval (.Name n p) X.env := by rfl) : FItems X i (.Attribute (.Name n p) x pos :: es) ((x, true) :: l)
def tItems (a : Addr) (cls : Value) (d : Option Addr) (C : Addr) (i : Nat) : List FIt → TA
  | [] => tNil
  | (x, false) :: l => tCons (tC (.str x)) (tItems a cls d C i l)
  | (x, true) :: l => tCons (tXf a cls d C x (tVar i)) (tItems a cls d C i l)
theorem pa_items {X : Cx} {i : Nat} {es : List Expr} {l : List FIt} (h : FItems X i es l) {a C : Addr} {oe : Obj} {cls : Value} {d : Option Addr} {pn : List (Addr × Obj)} (T : XfC X.K C) (hz : Zc cls d oe) (hf : ∃ vs, oe.data = .fields vs)
    (hno : ∀ x, (x, true) ∈ l → PySem.W.findIn X.K (.ref C) x = some none) : PA (X.suite a ((a, oe) :: pn)) es (tItems a cls d C i l) := by
  induction h with
  | nil => exact pa_nil
  | str r hs ih => exact pa_cons pe_str (ih fun x hx => hno x (List.mem_cons_of_mem _ hx)) hs
  | fld hN hv hd hcd r hs hb ih => exact pa_cons (pe_xf T (hno _ List.mem_cons_self) hz hf (pe_var hN hv hd hcd) hb) (ih fun x hx => hno x (List.mem_cons_of_mem _ hx)) hs
/-- the data of a field -/
def fieldD : List Str → List D → Str → Option D
  | n :: ns, d :: ds, x => if x = n then some d else fieldD ns ds x
  | _, _, _ => none
def itemsD (ns : List Str) (ds : List D) : List FIt → Option (List D)
  | [] => some []
  | (x, false) :: l => (itemsD ns ds l).map (.str x :: ·)
  | (x, true) :: l => (fieldD ns ds x).bind fun d => (itemsD ns ds l).map (d :: ·)
theorem field_has {F : Addr → Prop} {H : Hp} : ∀ {fs : List (Str × V)} {ds : List D} {x : Str} {d : D}, HasL F H (fs.map (·.2)) ds → fieldD (fs.map (·.1)) ds x = some d → ∃ v, fs.lookup x = some v ∧ Has F H v d
  | [], ds, x, d, h, e => by cases ds <;> cases e
  | (n, v) :: fs, [], x, d, h, e => by cases e
  | (n, v) :: fs, d0 :: ds, x, d, h, e => by
    cases h with
    | cons h1 h2 =>
    have e : (if x = n then some d0 else fieldD (fs.map (·.1)) ds x) = some d := e
    rw [lookup_put]
    by_cases hx : x = n
    · rw [if_pos hx] at e ⊢
      cases e
      exact ⟨v, rfl, h1⟩
    · rw [if_neg hx] at e ⊢
      exact field_has h2 e
theorem run_items {F : Addr → Prop} {H : Hp} {a C dd : Addr} {cls : Value} {i : Nat} {σ : L2.St} {fs : List (Str × V)} {ds : List D} (hc : cls = .ref C) (hd : H dd = some (.xd fs)) (hi : σ[i]? = some (some (.ref a))) (hl : HasL F H (fs.map (·.2)) ds) :
    ∀ (l : List FIt) (ys : List D) (Q : List V → Hp → Prop), itemsD (fs.map (·.1)) ds l = some ys → (∀ vs, HasL F H vs ys → Q vs H) → tItems a cls (some dd) C i l σ H Q
  | [], ys, Q, e, q => by cases e; exact q [] .nil
  | (x, false) :: l, ys, Q, e, q => by
    obtain ⟨zs, e1, e2⟩ := Option.map_eq_some_iff.mp e
    subst e2
    exact run_items hc hd hi hl l zs _ e1 fun vs hv => q (.str x :: vs) (.cons (.str x) hv)
  | (x, true) :: l, ys, Q, e, q => by
    obtain ⟨d, e0, e⟩ := Option.bind_eq_some_iff.mp e
    obtain ⟨zs, e1, e2⟩ := Option.map_eq_some_iff.mp e
    subst e2
    obtain ⟨v, lk, hv⟩ := field_has hl e0
    exact ⟨.ref a, hi, rfl, hc, dd, fs, v, rfl, hd, lk, run_items hc hd hi hl l zs _ e1 fun vs hvs => q (v :: vs) (.cons hv hvs)⟩

/-! ### the clauses by data -/
/-- a clause: its class, what it returns -/
abbrev Clause := Addr × List FIt
abbrev clauseT (i : Nat) (c : Clause) : Value × (Addr → Value → Option Addr → TS) := (.ref c.1, fun a cls d => tRet (tTup (tItems a cls d c.1 i c.2)))
def dClauses (K : PySem.W.Frag) (E : DEnds) (x : XD) (ρ : Env') (n : Nat) : List Clause → Prop
  | [] => E.ex x ρ n
  | (C, l) :: r => ∃ b, PySem.W.exmOne K (.ref x.C) (.ref C) = some b ∧ (b = true → x.C = C ∧ ∃ ys, itemsD x.ns x.ds l = some ys ∧ Fits ys.length ∧ E.rt (.tup ys) n) ∧ (b = false → dClauses K E x ρ n r)
def dTry (K : PySem.W.Frag) (i : Nat) (t : TDS) (cl : List Clause) : TDS := fun E ρ n => t { E with ex := fun x ρ' n' => i < ρ'.length ∧ dClauses K E x ρ' n' cl } ρ n
theorem clauses_ok {K : PySem.W.Frag} {i : Nat} {W : WX} {B : Base} {F₁ : Addr → Prop} {H₁ : Hp} {n₁ : Nat} {E : DEnds} {Z : Ends} (eo : EndsOk W B F₁ H₁ n₁ E Z) {cls : Value} {od : Option Addr} {x : XD} {σ : L2.St} {ρ : Env'} {F : Addr → Prop} {H : Hp} {n : Nat}
    (s : Stt B F H n σ ρ) (l : Later F₁ H₁ n₁ F H n) (hx : HasX F H cls od x) (hi : i < σ.length) : ∀ cl : List Clause, dClauses K E x ρ n cl → wNamed K i W Z (cl.map (clauseT i)) cls od σ H
  | [], h => eo.ex cls od x σ ρ F H n s l hx h
  | (C, its) :: r, h => by
    obtain ⟨b, hb, hyes, hno⟩ := h
    obtain ⟨rfl, dd, fs, rfl, hd, hns, hl⟩ := id hx
    refine ⟨b, hb, fun e a na => ?_, fun e => clauses_ok eo s l hx hi r (hno e)⟩
    obtain ⟨hC, ys, e1, hf, hrt⟩ := hyes e
    rw [← hns] at e1
    refine run_items (F := F) (by rw [hC]) hd (List.getElem?_set_self hi) hl its ys _ e1 fun vs hv => ⟨by rw [hv.len]; exact hf, fun p hp => ?_⟩
    have g : Grow F H n (plusF F p) (upd H p (.tup vs)) n := .laid s.hs.pb hp .tup
    exact eo.rt _ (.tup ys) _ _ n (s.grow.trans g) (.tup plusF_same upd_same (hv.mono g)) hrt
/-- the contexts of a try's body -/
abbrev TryI {ι : Type} (X : ι → Cx) (W : WX) : Type := { p : ι × List (Addr × Obj) × (Value → Shared → Prop) // Takes ((X p.1).tr p.2.1 p.2.2) W }
abbrev tryX {ι : Type} (X : ι → Cx) (W : WX) : TryI X W → Cx := fun p => (X p.1.1).tr p.1.2.1 p.1.2.2
section
variable {ι : Type} {X : ι → Cx} {W : WX} {K : PySem.W.Frag}
theorem DS.tryC {n : Str} {i : Nat} {body : List Stmt} {h₀ : ExceptHandler} {hds : List ExceptHandler} {cl : List Clause} {pos : Pos} {t : TDS} (hK : ∀ k, (X k).K = K) (hs : ∀ k, (X k).stack = (X k).env :: (X k).outer) (hf : ∀ k, (X k).env.frame = some (X k).env.locals) (hN : ∀ k, (X k).N.Nodup)
    (hi : ∀ k, (X k).N[i]? = some n) (hln : ∀ k, (X k).env.kindOf n = some .local) (tk : ∀ k, Takes (X k) W) (hb : ∀ W' : WX, DSs (tryX X W') W' body t) (hh : ∀ k, HdsN (X k) n (h₀ :: hds) (cl.map (clauseT i))) :
    DS X W (.Try body (h₀ :: hds) [] [] pos) (dTry K i t cl) := by
  refine ⟨_, fun k => by
    have h := ps_try_named (X := X k) (pos := pos) (tb := fun W' => Classical.choose (hb W').ex) (hs k) (hf k) (hN k) (hi k) (hln k) (tk k) (fun W' pn xe tk' => (Classical.choose_spec (hb W').ex).1 ⟨(k, pn, xe), tk'⟩) (hh k)
    rw [hK k] at h
    exact h, fun B F H m σ ρ E Z s h eo => ?_⟩
  refine (Classical.choose_spec (hb (wNamed K i W Z (cl.map (clauseT i)))).ex).2 B F H m σ ρ _ Z s h ⟨eo.nx, eo.bk, eo.ct, eo.rt, fun cls od x σ' ρ' F' H' n' s' l hx he => ?_⟩
  exact clauses_ok eo s' l hx (by rw [s'.hs.len]; exact he.1) cl he.2
end
/-- a raised error of one's own -/
def RunM (W : WX) (tm : L2.St → Hp → XK → Prop) (m : TD Unit) : Prop := True
end DL


set_option maxRecDepth 100000
set_option maxHeartbeats 2000000
/-! DL7: own errors with fields: made and raised. Own work over HandS. -/
namespace DL
open PySem PySem.Spec PyProof.Rows L2

/-- what of an own class over ValueError (at CD) must be seen that CD.__init__(self, ..) may be asked -/
structure BaseInit (K : PySem.W.Frag) (CD : Addr) : Prop where
  ga : PySem.W.specialIn K (.ref CD) "__getattribute__" = some (some (.builtin "type.__getattribute__"))
  ty : PySem.W.typeIn K (.ref CD) = some (.type "type")
  rd : PySem.W.readsIn K CD (.type "type") = true
  fd : PySem.W.findCls K (.ref CD) (.type "type") "__init__" = some (.val (.builtin "ValueError.__init__"))
section
variable {X : Cx} {x : Str} {CD : Addr} {e : Expr} {es : List Expr} {ta : TA} {p1 p2 pos : Pos}
theorem pe_binit {pl : Sem Bool} (hg : Gl X x) (hm : X.mg x = some (.ref CD)) (T : BaseInit X.K CD) (ha : PA X (e :: es) ta) (hdb : (x == ("__debug__" : Str)) = false := by decide)
    (hc : eval (.Call (.Attribute (.Name x p1) "__init__" p2) (e :: es) [] pos) X.env = (do
      let ov ← eval (.Name x p1) X.env
      standAt p2.atName
      let (f, first) ← holding [ov] (getMethod ov "__init__" pl)
      callWith pos f first (backTo pos (starEach (e :: es) X.env)) (backToKw pos (keywordEach [] X.env))) := by rfl)
    (he : starEach (e :: es) X.env = (false, eval e X.env) :: starEach es X.env := by rfl) (hpl : (backTo pos (starEach es X.env)).any (·.1) = false := by rfl) :
    PE X (.Call (.Attribute (.Name x p1) "__init__" p2) (e :: es) [] pos) (tVeI X.K ta) := by
  refine ⟨fun pins s σ H Q I h => ?_⟩
  refine PySem.W.methodCall_KW (ld_glob I hg hm ?_ hdb) hc
  obtain ⟨m, fr⟩ := I.fr
  refine PySem.W.method_of_cls fr I.ok.mod.kin T.ga (PySem.W.cls_val fr I.ok.mod.kin T.ty T.rd T.fd (by decide +kernel) ?_)
  refine PyProof.Rows.callWith_method1 (thn (ha.run pos pins _ σ H _ (I.tok _) h) fun us s1 ⟨vs, H1, I1, r1, a, C, ws, ev, hl, T, ea, q⟩ => ?_) he hpl
  subst ev
  cases r1 with
  | @cons _ u0 _ ur ra rw' =>
    obtain rfl : u0 = Value.ref a := ra
    have hlen : ur.length ≤ sizeLine := by
      rw [← Paired.length rw', sizeLine_eq]
      omega
    exact oinit_ok T I1 ea hlen fun s' J => ⟨.non, H1, J, rfl, q⟩
end

/-- self.f = f, .. -/
def tFields (K : PySem.W.Frag) : List Str → Nat → TS
  | [], _ => tNext
  | [f], i => tOst K f (tVar 0) (tVar i)
  | f :: g :: r, i => tSeq (tOst K f (tVar 0) (tVar i)) (tFields K (g :: r) (i + 1))
def tInit (K : PySem.W.Frag) (msg : Str) (fs : List Str) : TS := tSeq (tDrop (tVeI K (tCons (tVar 0) (tCons (tC (.str msg)) tNil)))) (tFields K fs 1)
/-- the promise: the fields are put -/
def spInit (C : Addr) (fs : List Str) : Sp := fun vs H Q _ => ∃ a ws, vs = .ref a :: ws ∧ ws.length = fs.length ∧ H a = some (exo a C none) ∧ ∀ dx, H dx = none → dx ≠ a → Q .non (upd (upd H a (exo a C (some dx))) dx (exd dx ((fs.zip ws).reverse)))
theorem fields_old {K : PySem.W.Frag} {C a dx : Addr} (T : OexC K C) {D : Ends} (nda : a ≠ dx) : ∀ (fs : List Str) (ws : List V) (i : Nat) (σ : L2.St) (H : Hp) (acc : List (Str × V)), fs ≠ [] → (∀ f ∈ fs, PySem.W.findIn K (.ref C) f = some none) → fs.length = ws.length → σ[0]? = some (some (.ref a)) →
    (∀ j w, ws[j]? = some w → σ[i + j]? = some (some w)) → H a = some (exo a C (some dx)) → H dx = some (exd dx acc) → acc.length + fs.length ≤ 900 → D.nx σ (upd H dx (exd dx ((fs.zip ws).reverse ++ acc))) → tFields K fs i D σ H
  | [], _, _, _, _, _, h, _, _, _, _, _, _, _, _ => (h rfl).elim
  | [f], ws, i, σ, H, acc, _, hno, hl, h0, hs, ea, ed, hz, hq => by
    obtain ⟨w, rfl⟩ : ∃ w, ws = [w] := by
      match ws, hl with
      | [w], _ => exact ⟨w, rfl⟩
    exact ⟨w, hs 0 w rfl, .ref a, h0, a, C, rfl, T, hno f List.mem_cons_self, .inr ⟨dx, acc, ea, ed, by simp at hz; omega, hq⟩⟩
  | f :: g :: r, ws, i, σ, H, acc, _, hno, hl, h0, hs, ea, ed, hz, hq => by
    obtain ⟨w, ws', rfl⟩ : ∃ w ws', ws = w :: ws' := by
      match ws, hl with
      | w :: ws', _ => exact ⟨w, ws', rfl⟩
    refine ⟨w, hs 0 w rfl, .ref a, h0, a, C, rfl, T, hno f List.mem_cons_self, .inr ⟨dx, acc, ea, ed, by simp at hz; omega, ?_⟩⟩
    refine fields_old T nda (g :: r) ws' (i + 1) σ _ ((f, w) :: acc) (by simp) (fun f' hf => hno f' (List.mem_cons_of_mem _ hf)) (by simpa using hl) h0 (fun j w' e => by have := hs (j + 1) w' (by simpa using e); rw [← this]; congr 1; omega) (by rw [upd_ne nda]; exact ea) upd_same (by simp at hz ⊢; omega) ?_
    rw [upd_upd]
    have e : ((g :: r).zip ws').reverse ++ (f, w) :: acc = ((f :: g :: r).zip (w :: ws')).reverse ++ acc := by simp
    rw [e]
    exact hq

theorem run_init {K : PySem.W.Frag} {C a : Addr} (T : OexC K C) {D : Ends} {msg : Str} {fs : List Str} {ws : List V} {N : List Str} {H : Hp} {Q : VK} (hf : fs ≠ []) (hl : fs.length = ws.length) (hz : fs.length ≤ 800) (hno : ∀ f ∈ fs, PySem.W.findIn K (.ref C) f = some none) (ea : H a = some (exo a C none))
    (hD : ∀ σ H, Q .non H → D.nx σ H) (hq : ∀ dx, H dx = none → dx ≠ a → Q .non (upd (upd H a (exo a C (some dx))) dx (exd dx ((fs.zip ws).reverse)))) : tInit K msg fs D (L2.start N (.ref a :: ws)) H := by
  have h0 : (L2.start N (.ref a :: ws))[0]? = some (some (.ref a)) := rfl
  have hs : ∀ j w, ws[j]? = some w → (L2.start N (.ref a :: ws))[1 + j]? = some (some w) := fun j w e => by
    unfold L2.start
    have hj : j < ws.length := (List.getElem?_eq_some_iff.mp e).1
    rw [List.getElem?_append_left (by simp; omega), List.getElem?_map, Nat.add_comm 1 j, List.getElem?_cons_succ, e]
    rfl
  generalize L2.start N (.ref a :: ws) = σ at h0 hs
  refine ⟨_, h0, a, C, [.str msg], rfl, by simp, T, ea, ?_⟩
  show tFields K fs 1 D σ H
  match fs, ws, hf, hl with
  | [f], [w], _, _ =>
    refine ⟨w, hs 0 w rfl, .ref a, h0, a, C, rfl, T, hno f List.mem_cons_self, .inl ⟨ea, fun dx n ne => hD _ _ ?_⟩⟩
    have e : upd (upd H dx (exd dx [(f, w)])) a (exo a C (some dx)) = upd (upd H a (exo a C (some dx))) dx (exd dx [(f, w)]) := by
      funext b
      by_cases h1 : b = a
      · subst h1; rw [upd_same, upd_ne (Ne.symm ne), upd_same]
      · by_cases h2 : b = dx
        · subst h2; rw [upd_ne h1, upd_same, upd_same]
        · rw [upd_ne h1, upd_ne h2, upd_ne h2, upd_ne h1]
    rw [e]
    exact hq dx n ne
  | f :: g :: r, w :: ws', _, hl =>
    refine ⟨w, hs 0 w rfl, .ref a, h0, a, C, rfl, T, hno f List.mem_cons_self, .inl ⟨ea, fun dx n ne => ?_⟩⟩
    have e : upd (upd H dx (exd dx [(f, w)])) a (exo a C (some dx)) = upd (upd H a (exo a C (some dx))) dx (exd dx [(f, w)]) := by
      funext b
      by_cases h1 : b = a
      · subst h1; rw [upd_same, upd_ne (Ne.symm ne), upd_same]
      · by_cases h2 : b = dx
        · subst h2; rw [upd_ne h1, upd_same, upd_same]
        · rw [upd_ne h1, upd_ne h2, upd_ne h2, upd_ne h1]
    rw [e]
    refine fields_old T (Ne.symm ne) (g :: r) ws' 2 σ _ [(f, w)] (by simp) (fun f' hf' => hno f' (List.mem_cons_of_mem _ hf')) (by simpa using hl) h0 (fun j w' e => by have := hs (j + 1) w' (by simpa using e); rw [← this]; congr 1; omega) (by rw [upd_ne (Ne.symm ne), upd_same]) upd_same (by simp at hz ⊢; omega) (hD _ _ ?_)
    rw [upd_upd]
    have e2 : ((g :: r).zip ws').reverse ++ [(f, w)] = ((f :: g :: r).zip (w :: ws')).reverse := by simp
    rw [e2]
    exact hq dx n ne
/-- the promise of such an __init__ -/
theorem init_ok {P : Program} {w : World} {K : PySem.W.Frag} {mg : Str → Option Value} {base : Heap} {x qual msg : Str} {st : Stmt} {f C : Addr} {fd : FuncData} {N ps fs : List Str} {k : Nat} (F : Fun K x qual st f fd) (S : FnScope N ps (defScope st)) (T : OexC K C) (hf : fs ≠ []) (hps : ps.length = fs.length + 1) (hz : fs.length ≤ 800)
    (hno : ∀ f ∈ fs, PySem.W.findIn K (.ref C) f = some none)
    (hbody : ∀ (cdv : Value) (A : Around) (outer : List Env) (s : Shared) (H : Hp) (E : XK), PSs (cxOf (L2.CX P w) P w K mg base N qual (defScope st) f cdv A outer s H E) (defBody st) (tInit K msg fs)) :
    FnOk P w K mg base (L2.CX P w) (k + 1) f fd ps (spInit C fs) := by
  refine Fun.okX F S (fun vs H Q E h => ?_) fun cdv A outer s H vs Q E hr h => ?_
  · obtain ⟨a, ws, rfl, hl, _⟩ := h
    rw [hps, List.length_cons, hl]
  · obtain ⟨a, ws, rfl, hl, ea, hq⟩ := h
    exact ⟨_, hbody cdv A outer s H E, run_init T hf hl.symm hz hno ea (fun _ _ q => q) hq⟩

/-! ### raise -/
def raiseW (C : Addr) (fs : List Str) (t : TD (List D)) : TDS := fun E ρ n => t ρ (fun ds n' => ds.length = fs.length ∧ E.ex ⟨C, fs.reverse, ds.reverse⟩ ρ n') (fun x n' => E.ex x ρ n') n
theorem HasL.rev {F : Addr → Prop} {H : Hp} : ∀ {vs : List V} {ds : List D}, HasL F H vs ds → HasL F H vs.reverse ds.reverse
  | _, _, .nil => .nil
  | _, _, .cons h l => by
    rw [List.reverse_cons, List.reverse_cons]
    exact (HasL.rev l).snoc h
section
variable {ι : Type} {X : ι → Cx} {W : WX}
theorem DS.raise {x : Str} {C fI : Addr} {k : Nat} {fd : FuncData} {ps fs : List Str} {e : Expr} {es : List Expr} {t : TD (List D)} {p pos pos' : Pos} (hc : ∀ i, (X i).calm = true) (tk : ∀ i, Takes (X i) W) (T : ∀ i, OexC (X i).K C) (hf : fs ≠ []) (hz : fs.length ≤ 800)
    (iC : ∀ i, PySem.W.findIn (X i).K (.ref C) "__init__" = some (some (.ref fI))) (tI : ∀ i, PySem.W.typeIn (X i).K (.ref fI) = some (.type "function"))
    (F1 : ∀ i, FnOk (X i).prog (X i).w (X i).K (X i).mg (X i).base (L2.CX (X i).prog (X i).w) k fI fd ps (spInit C fs)) (hr : ∀ i, Room (k + 1) (X i).A) (hb : ∀ i, Binds (X i).K fd ps []) (hg : ∀ i, Gl (X i) x) (hm : ∀ i, (X i).mg x = some (.ref C)) (ha : DA X W (e :: es) t)
    (hdb : (x == ("__debug__" : Str)) = false := by decide) (he : ∀ i, starEach (e :: es) (X i).env = (false, eval e (X i).env) :: starEach es (X i).env := by intro _; rfl) (hpl : ∀ i, (backTo pos (starEach es (X i).env)).any (·.1) = false := by intro _; rfl) :
    DS X W (.Raise (some (.Call (.Name x p) (e :: es) [] pos)) none pos') (raiseW C fs t) := by
  obtain ⟨ta, pa, ra⟩ := ha
  refine ⟨_, fun i => ps_raise (hc i) (tk i) (pmk_oex (dvs := []) (T i) (iC i) (tI i) (F1 i) (hr i) (hb i) .nil passL (hg i) (hm i) (pa i) hdb (he i) (hpl i)), fun B F H n σ ρ E Z s h eo => ?_⟩
  refine ra F H n σ ρ _ _ _ s.hs h (fun vs ds F1 H1 n1 g1 hv hk => ?_) fun cls od xd F' H' n' g hx he' => eo.ex cls od xd σ ρ F' H' n' (s.mono g) g.later hx he'
  obtain ⟨hl, hk⟩ := hk
  have hlv : vs.length = fs.length := by rw [hv.len]; exact hl
  refine ⟨by omega, fun a ha => ?_⟩
  refine ⟨a, vs ++ [], rfl, by rw [List.append_nil]; exact hlv, upd_same, fun dx n ne => ?_⟩
  rw [List.append_nil]
  have hdx : H1 dx = none := by rw [upd_ne ne] at n; exact n
  refine ⟨rfl, dx, (fs.zip vs).reverse, ?_, upd_same, hdx, ?_⟩
  · rw [upd_ne (Ne.symm ne), upd_same]
  have eH : upd (del (upd (upd (upd H1 a (exo a C none)) a (exo a C (some dx))) dx (exd dx ((fs.zip vs).reverse))) a) dx (.xd ((fs.zip vs).reverse)) = upd H1 dx (.xd ((fs.zip vs).reverse)) := by
    funext b
    by_cases h2 : b = dx
    · subst h2; rw [upd_same, upd_same]
    · rw [upd_ne h2, upd_ne h2]
      by_cases h1 : b = a
      · subst h1; rw [del_same, ha]
      · rw [del_ne h1, upd_ne h2, upd_ne h1, upd_ne h1]
  rw [eH]
  have g2 : Grow F1 H1 n1 (plusF F1 dx) (upd H1 dx (.xd ((fs.zip vs).reverse))) n1 := .laid g1.pb hdx .xd
  have e1 : ((fs.zip vs).reverse).map (·.1) = fs.reverse := by rw [List.map_reverse, List.map_fst_zip (by omega)]
  have e2 : ((fs.zip vs).reverse).map (·.2) = vs.reverse := by rw [List.map_reverse, List.map_snd_zip (by omega)]
  exact eo.ex _ _ _ σ ρ _ _ n1 (s.mono (g1.trans g2)) (g1.trans g2).later ⟨rfl, dx, _, rfl, upd_same, e1, by rw [e2]; exact (hv.mono g2).rev⟩ hk
end
end DL


set_option maxRecDepth 100000
set_option maxHeartbeats 2000000
/-! DL8: lambdas without parameters, kept in rows and called later. Own work over HandS. -/
namespace DL
open PySem PySem.Spec PyProof.Rows L2

/-! ### cutting addresses out of the abstract heap, laying them in -/
def cut (l : List Addr) (H : Hp) : Hp := fun a => if a ∈ l then none else H a
def lay (l : List Addr) (f H : Hp) : Hp := fun a => if a ∈ l then f a else H a
theorem cut_in {l : List Addr} {H : Hp} {a : Addr} (h : a ∈ l) : cut l H a = none := if_pos h
theorem cut_out {l : List Addr} {H : Hp} {a : Addr} (h : a ∉ l) : cut l H a = H a := if_neg h
theorem lay_in {l : List Addr} {f H : Hp} {a : Addr} (h : a ∈ l) : lay l f H a = f a := if_pos h
theorem lay_out {l : List Addr} {f H : Hp} {a : Addr} (h : a ∉ l) : lay l f H a = H a := if_neg h
/-- each stands as one very object -/
def Fixed (l : List Addr) (f : Hp) : Prop := ∀ c ∈ l, ∃ o, f c = some (FixO c o)
theorem fixO_ok {P : Program} {w : World} {H : Hp} {h : Heap} {c : Addr} {o : Obj} (e : h.get? c = some o) : ObjOk P w H h c (FixO c o) := ⟨e, ⟨o, e⟩, fun _ _ z k => k _ z⟩
theorem fixO_at {P : Program} {w : World} {H : Hp} {h : Heap} {c : Addr} {o : Obj} (hok : HOk P w H h) (e : H c = some (FixO c o)) : h.get? c = some o := by
  have x : ObjOk P w H h c (.ext fun h => h.get? c = some o) := hok c _ e
  exact x.1
theorem fix_own {c x : Addr} {o : Obj} : FixO c o ≠ .own x := fun z => by
  have z' : HO.ext _ = HO.own x := z
  cases z'
theorem fix_tup {c : Addr} {o : Obj} {xs : List V} : FixO c o ≠ .tup xs := fun z => by
  have z' : HO.ext _ = HO.tup xs := z
  cases z'
theorem fix_lst {c : Addr} {o : Obj} {xs : List V} : FixO c o ≠ .lst xs := fun z => by
  have z' : HO.ext _ = HO.lst xs := z
  cases z'
theorem fix_dK {c : Addr} {o : Obj} {xs : List (Key × V)} : FixO c o ≠ .dK xs := fun z => by
  have z' : HO.ext _ = HO.dK xs := z
  cases z'
theorem fix_ins {c C d : Addr} {o : Obj} {xs : List (Str × V)} : FixO c o ≠ .ins C d xs := fun z => by
  have z' : HO.ext _ = HO.ins C d xs := z
  cases z'
theorem fix_frz {c : Addr} {o o' : Obj} {u : HO} : FixO c o ≠ .frz o' u := fun z => by
  have z' : HO.ext _ = HO.frz o' u := z
  cases z'
theorem fix_tbl {c : Addr} {o : Obj} {ps : Array Value} : FixO c o ≠ .tbl ps := fun z => by
  have z' : HO.ext _ = HO.tbl ps := z
  cases z'
theorem Fixed.out {l : List Addr} {H : Hp} (fx : Fixed l H) {b : Addr} {u : HO} (e : H b = some u) (n : ∀ c o, FixO c o ≠ u) : b ∉ l := fun hb => by
  obtain ⟨o, e2⟩ := fx b hb
  rw [e2] at e
  exact n b o (Option.some.inj e)
section
variable {P : Program} {w : World} {l : List Addr} {H H' f : Hp} {h h' : Heap} {fs : List Addr}
theorem hok_cut (fx : Fixed l H) (ok : HOk P w H h) : HOk P w (cut l H) h := fun b u e => by
  by_cases hb : b ∈ l
  · rw [cut_in hb] at e; cases e
  · rw [cut_out hb] at e
    exact (ok b u e).stay (fun _ _ _ q => q) (fun c q => by rw [cut_out (fx.out q fun _ _ => fix_own)]; exact q) fun c xs q => by rw [cut_out (fx.out q fun _ _ => fix_tup)]; exact q
theorem hok_lay (fx : Fixed l f) (hn : ∀ c ∈ l, H c = none) (hg : ∀ c ∈ l, ∀ o, f c = some (FixO c o) → h.get? c = some o) (ok : HOk P w H h) : HOk P w (lay l f H) h := fun b u e => by
  by_cases hb : b ∈ l
  · rw [lay_in hb] at e
    obtain ⟨o, e2⟩ := fx b hb
    rw [e2] at e
    cases e
    exact fixO_ok (hg b hb o e2)
  · rw [lay_out hb] at e
    have off : ∀ {c : Addr} {v : HO}, H c = some v → c ∉ l := fun q z => by rw [hn _ z] at q; cases q
    exact (ok b u e).stay (fun _ _ _ q => q) (fun c q => by rw [lay_out (off q)]; exact q) fun c xs q => by rw [lay_out (off q)]; exact q
/-- H bears fixed ones at l; what ran ran without them; they are laid in again -/
theorem un_lay (fx : Fixed l H) (ok : HOk P w H h) (hf : ∀ c ∈ l, c ∉ fs) (un : Un fs [] (cut l H) H' h h') (ok' : HOk P w H' h') : Un fs [] H (lay l H H') h h' ∧ HOk P w (lay l H H') h' ∧ ∀ c ∈ l, H' c = none := by
  have at_ : ∀ c ∈ l, ∃ o, H c = some (FixO c o) ∧ h.get? c = some o := fun c hc => let ⟨o, e⟩ := fx c hc; ⟨o, e, fixO_at ok e⟩
  have hn : ∀ c ∈ l, H' c = none := fun c hc => let ⟨o, _, e⟩ := at_ c hc; un.free c o e (cut_in hc) (by simp)
  have off : ∀ {b : Addr}, H b = none → b ∉ l := fun n z => by obtain ⟨o, e, _⟩ := at_ _ z; rw [n] at e; cases e
  refine ⟨⟨fun b o e n hb hx => un.keep b o e (by rw [cut_out (off n)]; exact n) hb hx, fun b o e n hb hx => un.slot b o e (by rw [cut_out (off n)]; exact n) hb hx, fun b o e n hx => by rw [lay_out (off n)]; exact un.free b o e (by rw [cut_out (off n)]; exact n) hx,
    un.there, fun b xs e => ?_, fun b o u e => ?_, fun b ps e => ?_⟩, hok_lay fx hn (fun c hc o e => ?_) ok', hn⟩
  · have hb := fx.out e fun _ _ => fix_tup
    rw [lay_out hb]
    exact un.tups b xs (by rw [cut_out hb]; exact e)
  · have hb := fx.out e fun _ _ => fix_frz
    rw [lay_out hb]
    exact un.frzs b o u (by rw [cut_out hb]; exact e)
  · have hb := fx.out e fun _ _ => fix_tbl
    rw [lay_out hb]
    exact un.tbls b ps (by rw [cut_out hb]; exact e)
  · exact un.keep c o (fixO_at ok e) (cut_in hc) (hf c hc) (by simp)
/-- the same into the ground of an exception -/
theorem ub_lay {B : Heap} (fx : Fixed l H) (ok : HOk P w H h) (hf : ∀ c ∈ l, c ∉ fs) (ub : UB fs (cut l H) H' h B h') (ok' : HOk P w H' B) : UB fs H (lay l H H') h B h' ∧ HOk P w (lay l H H') B ∧ (∀ c ∈ l, H' c = none) ∧ ∀ c ∈ l, ∃ o, B.get? c = some o := by
  have at_ : ∀ c ∈ l, ∃ o, H c = some (FixO c o) ∧ h.get? c = some o := fun c hc => let ⟨o, e⟩ := fx c hc; ⟨o, e, fixO_at ok e⟩
  have hn : ∀ c ∈ l, H' c = none := fun c hc => let ⟨o, _, e⟩ := at_ c hc; ub.free c o e (cut_in hc)
  have off : ∀ {b : Addr}, H b = none → b ∉ l := fun n z => by obtain ⟨o, e, _⟩ := at_ _ z; rw [n] at e; cases e
  refine ⟨⟨fun b o e n hb => ub.keep b o e (by rw [cut_out (off n)]; exact n) hb, fun b o e hb => ub.slot b o e hb, fun b o e n => by rw [lay_out (off n)]; exact ub.free b o e (by rw [cut_out (off n)]; exact n),
    ub.there, fun b xs e => ?_, fun b o u e => ?_, fun b ps e => ?_⟩, hok_lay fx hn (fun c hc o e => ?_) ok', hn, fun c hc => ?_⟩
  · have hb := fx.out e fun _ _ => fix_tup
    rw [lay_out hb]
    exact ub.tups b xs (by rw [cut_out hb]; exact e)
  · have hb := fx.out e fun _ _ => fix_frz
    rw [lay_out hb]
    exact ub.frzs b o u (by rw [cut_out hb]; exact e)
  · have hb := fx.out e fun _ _ => fix_tbl
    rw [lay_out hb]
    exact ub.tbls b ps (by rw [cut_out hb]; exact e)
  · exact ub.keep c o (fixO_at ok e) (cut_in hc) (hf c hc)
  · obtain ⟨o, e1, e2⟩ := at_ c hc
    exact ⟨o, ub.keep c o e2 (cut_in hc) (hf c hc)⟩
/-- H knows nothing of l; what ran ran with fixed ones there; they are cut out again -/
theorem un_cut (hn : ∀ c ∈ l, H c = none) (fx : Fixed l f) (hg : ∀ c ∈ l, ∀ o, f c = some (FixO c o) → h.get? c = some o) (un : Un fs [] (lay l f H) H' h h') (ok' : HOk P w H' h') (hk : ∀ c ∈ l, H' c = f c) : Un fs [] H (cut l H') h h' ∧ HOk P w (cut l H') h' := by
  have off : ∀ {b : Addr} {u : HO}, H b = some u → b ∉ l := fun q z => by rw [hn _ z] at q; cases q
  have there : ∀ c ∈ l, ∀ o, h.get? c = some o → h'.get? c = some o := fun c hc o e => by
    obtain ⟨o2, e2⟩ := fx c hc
    have e3 := hg c hc o2 e2
    rw [e] at e3
    cases e3
    exact fixO_at ok' (by rw [hk c hc]; exact e2)
  have fx' : Fixed l H' := fun c hc => by rw [hk c hc]; exact fx c hc
  refine ⟨⟨fun b o e n hb hx => ?_, fun b o e n hb hx => ?_, fun b o e n hx => ?_, un.there, fun b xs e => ?_, fun b o u e => ?_, fun b ps e => ?_⟩, hok_cut fx' ok'⟩
  · by_cases hl : b ∈ l
    · exact there b hl o e
    · exact un.keep b o e (by rw [lay_out hl]; exact n) hb hx
  · by_cases hl : b ∈ l
    · exact ⟨o.slots, there b hl o e⟩
    · exact un.slot b o e (by rw [lay_out hl]; exact n) hb hx
  · by_cases hl : b ∈ l
    · exact cut_in hl
    · rw [cut_out hl]
      exact un.free b o e (by rw [lay_out hl]; exact n) hx
  · rw [cut_out (off e)]
    exact un.tups b xs (by rw [lay_out (off e)]; exact e)
  · rw [cut_out (off e)]
    exact un.frzs b o u (by rw [lay_out (off e)]; exact e)
  · rw [cut_out (off e)]
    exact un.tbls b ps (by rw [lay_out (off e)]; exact e)
end

/-! ### data without the cut ones -/
mutual
/-- no lambda, no pen, no script within -/
def plainD : D → Bool
  | .non => true
  | .bl _ => true
  | .int _ => true
  | .str _ => true
  | .tup ds => plainL ds
  | .lst ds => plainL ds
  | .dic _ ds => plainL ds
  | .obj _ _ ds => plainL ds
  | .exc _ _ _ => false
  | .pen => false
  | .clo _ _ _ => false
  | .fnA _ => true
  | .scr _ _ _ => false
def plainL : List D → Bool
  | [] => true
  | d :: ds => plainD d && plainL ds
end
section
variable {l : List Addr} {F F' : Addr → Prop} {H H' : Hp} {n n' : Nat}
abbrev cutF (l : List Addr) (F : Addr → Prop) : Addr → Prop := fun a => F a ∧ a ∉ l
abbrev layF (l : List Addr) (F : Addr → Prop) : Addr → Prop := fun a => F a ∨ a ∈ l
mutual
theorem Has.cut (fx : Fixed l H) : ∀ {v : V} {d : D}, Has F H v d → plainD d = true → Has (cutF l F) (DL.cut l H) v d
  | _, _, .non, _ => .non
  | _, _, .bl b, _ => .bl b
  | _, _, .int i, _ => .int i
  | _, _, .str x, _ => .str x
  | _, _, .tup f h k, e => have o := fx.out h fun _ _ => fix_tup; .tup ⟨f, o⟩ ((cut_out o).trans h) (HasL.cut fx k (by unfold plainD at e; exact e))
  | _, _, .lst f h k, e => have o := fx.out h fun _ _ => fix_lst; .lst ⟨f, o⟩ ((cut_out o).trans h) (HasL.cut fx k (by unfold plainD at e; exact e))
  | _, _, .dic f h q z k, e => have o := fx.out h fun _ _ => fix_dK; .dic ⟨f, o⟩ ((cut_out o).trans h) q z (HasL.cut fx k (by unfold plainD at e; exact e))
  | _, _, .obj f h z k, e => have o := fx.out h fun _ _ => fix_ins; .obj ⟨f, o⟩ ((cut_out o).trans h) z (HasL.cut fx k (by unfold plainD at e; exact e))
  | _, _, .pen _ _ _ _ _ _, e => by unfold plainD at e; cases e
  | _, _, .clo0 _ _ _ _, e => by unfold plainD at e; cases e
  | _, _, .clo1 _ _ _ _ _ _ _, e => by unfold plainD at e; cases e
  | _, _, .fnA a, _ => .fnA a
  | _, _, .exc _ _ _ _ _ _, e => by unfold plainD at e; cases e
  | _, _, .exc0 _ _, e => by unfold plainD at e; cases e
  | _, _, .scr _ _, e => by unfold plainD at e; cases e
theorem HasL.cut (fx : Fixed l H) : ∀ {vs : List V} {ds : List D}, HasL F H vs ds → plainL ds = true → HasL (cutF l F) (DL.cut l H) vs ds
  | _, _, .nil, _ => .nil
  | _, _, .cons h k, e => by
    unfold plainL at e
    obtain ⟨e1, e2⟩ := Bool.and_eq_true_iff.mp e
    exact .cons (Has.cut fx h e1) (HasL.cut fx k e2)
end
/-- a code object is no cell -/
theorem cod_out {P : Program} {w : World} {h : Heap} {q : Str} {c : Addr} (ok : HOk P w H h) (hl : ∀ c ∈ l, ∃ o u, H c = some (FixO c o) ∧ o.data = .cell (some u)) (e : H c = some (CodO c q)) : c ∉ l := fun z => by
  obtain ⟨o, u, e1, e2⟩ := hl c z
  have a := fixO_at ok e1
  have x : ObjOk P w H h c (.ext fun h => ∃ (oc : Obj) (vs : Array Value) (t : Tok), h.get? c = some oc ∧ oc.data = .fields vs ∧ vs[1]? = some (.str q t)) := ok c _ e
  obtain ⟨⟨oc, vs, t, b1, b2, _⟩, _⟩ := x
  rw [a] at b1
  cases b1
  rw [e2] at b2
  cases b2
theorem PenB.cut {P : Program} {w : World} {h : Heap} (pb : PenB F H n) (ok : HOk P w H h) (hl : ∀ c ∈ l, ∃ o u, H c = some (FixO c o) ∧ o.data = .cell (some u)) : PenB (cutF l F) (DL.cut l H) n where
  ct := fun a c p e => by
    by_cases ha : a ∈ l
    · rw [cut_in ha] at e; cases e
    · rw [cut_out ha] at e; exact pb.ct a c p e
  dom := fun a f => by
    rw [cut_out f.2]
    exact pb.dom a f.1
  tb := fun Q ps e => by
    by_cases ha : Q ∈ l
    · rw [cut_in ha] at e; cases e
    · rw [cut_out ha] at e
      obtain ⟨t1, t2⟩ := pb.tb Q ps e
      exact ⟨t1, fun pos cv z => let ⟨c, e1, f, e2⟩ := t2 pos cv z; ⟨c, e1, ⟨f, cod_out ok hl e2⟩, (cut_out (cod_out ok hl e2)).trans e2⟩⟩
theorem Grow.lay (fx : Fixed l H) (hF : ∀ c ∈ l, F c) (hn : ∀ c ∈ l, H' c = none) (g : Grow (cutF l F) (DL.cut l H) n F' H' n') : Grow F H n (layF l F') (DL.lay l H H') n' where
  keep := fun a o e => by
    by_cases ha : a ∈ l
    · rw [lay_in ha]; exact .inl e
    · rw [lay_out ha]; exact g.keep a o (by rw [cut_out ha]; exact e)
  sub := fun a f => by
    by_cases ha : a ∈ l
    · exact .inr ha
    · exact .inl (g.sub a ⟨f, ha⟩)
  new := fun a f => by
    by_cases ha : a ∈ l
    · exact .inl (hF a ha)
    · rcases g.new a (f.resolve_right ha) with z | z
      · exact .inl z.1
      · rw [cut_out ha] at z; exact .inr z
  pb := ⟨fun a c p e => by
    by_cases ha : a ∈ l
    · rw [lay_in ha] at e
      exact absurd ha (fx.out e fun _ _ => fix_dK)
    · rw [lay_out ha] at e; exact g.pb.ct a c p e, fun a f => by
    by_cases ha : a ∈ l
    · rw [lay_in ha]
      obtain ⟨o, e⟩ := fx a ha
      exact ⟨_, e⟩
    · rw [lay_out ha]; exact g.pb.dom a (f.resolve_right ha), fun Q ps e => by
    by_cases ha : Q ∈ l
    · rw [lay_in ha] at e
      exact absurd ha (fx.out e fun _ _ => fix_tbl)
    · rw [lay_out ha] at e
      refine (g.pb.tb Q ps e).mono (fun _ => .inl) fun c f q => ?_
      rw [lay_out (fun z => by rw [hn c z] at q; cases q)]
      exact q⟩
  le := g.le
theorem later_lay (hn : ∀ c ∈ l, H' c = none) : Later F' H' n (layF l F') (DL.lay l H H') n := ⟨fun a o _ e => .inl (by rw [lay_out (fun z => by rw [hn a z] at e; cases e)]; exact e), fun _ => .inl, Nat.le_refl _⟩
end
theorem HasX.later {F F' : Addr → Prop} {H H' : Hp} {n n' : Nat} (g : Later F H n F' H' n') {cls : Value} {od : Option Addr} {x : XD} (h : HasX F H cls od x) (hk : ∀ a fs, H a = some (.xd fs) → H' a = some (.xd fs)) : HasX F' H' cls od x := by
  obtain ⟨e1, d, fs, e2, hd, e3, hl⟩ := h
  exact ⟨e1, d, fs, e2, hk d fs hd, e3, hl.later g⟩

/-! ### a lambda called -/
abbrev cloEnv (r : CloR) (L f : Addr) : Env := PySem.W.envX r.qual r.scope L f (.ref r.code) r.cl
/-- the context of a lambda's body; N: the captured names -/
def cloCx (P : Program) (w : World) (K : PySem.W.Frag) (mg : Str → Option Value) (base : Heap) (N : List Str) (r : CloR) (A : Around) (outer : List Env) (s : Shared) (H : Hp) (E : XK) (f : Addr) : Cx where
  prog := P
  w := w
  K := K
  mg := mg
  base := base
  A := A.deeper (cloEnv r s.heap.objs.size f)
  N := N
  s_0 := s
  H_0 := H
  env := cloEnv r s.heap.objs.size f
  outer := outer
  stack := cloEnv r s.heap.objs.size f :: outer
  ex := []
  fn := fun _ => false
  calm := true
  pn := []
  xe := fun e s' => wpAny (model P w) (A.deeper (cloEnv r s.heap.objs.size f)) (leaving (cloEnv r s.heap.objs.size f) e) (fun _ s'' => L2.CX P w outer H s E e s'') (fun e' s'' => L2.CX P w outer H s E e' s'') s'
/-- what a lambda's scope must be; N: its captured names, in the order of its cells -/
structure CloScope (N : List Str) (r : CloR) : Prop where
  kind : r.scope.kind = .function
  co : r.scope.isCoroutine = false
  gen : r.scope.isGenerator = false
  own : ∀ y ∈ r.scope.names, y.2 ≠ .local ∧ y.2 ≠ .cell
  names : r.cl.map (·.1) = N
  nodup : N.Nodup
  free : ∀ y, r.scope.names.lookup y = some .free → y ∈ N
  inj : ∀ x y c, r.cl.lookup x = some c → r.cl.lookup y = some c → x = y
  bind : bindArgs (PySem.W.kla_fn "<lambda>" r.qual r.params r.body r.scope r.cl r.pm (.ref r.code) r.ctv) ⟨[], []⟩ = pure []
theorem lookup_of_ix {cl : List (Str × Addr)} (nd : (cl.map (·.1)).Nodup) : ∀ {i : Nat} {y : Str} {c : Addr}, cl[i]? = some (y, c) → cl.lookup y = some c := by
  induction cl with
  | nil => intro i y c e; simp at e
  | cons p cl ih =>
    obtain ⟨z, d⟩ := p
    intro i y c e
    rw [List.map_cons, List.nodup_cons] at nd
    cases i with
    | zero =>
      simp at e
      obtain ⟨rfl, rfl⟩ := e
      simp [List.lookup]
    | succ i =>
      have e : cl[i]? = some (y, c) := by simpa using e
      have hy : y ∈ cl.map (·.1) := List.mem_map.mpr ⟨_, List.mem_of_getElem? e, rfl⟩
      have hne : y ≠ z := fun h => nd.1 (h ▸ hy)
      have hb : (y == z) = false := by simpa using hne
      simp only [List.lookup, hb]
      exact ih nd.2 e
theorem ix_of_lookup {cl : List (Str × Addr)} : ∀ {y : Str} {c : Addr}, cl.lookup y = some c → ∃ i : Nat, cl[i]? = some (y, c) := by
  intro y c e
  have h := PySem.mem_of_lookup e
  obtain ⟨i, hi, e2⟩ := List.mem_iff_getElem.mp h
  exact ⟨i, by rw [List.getElem?_eq_getElem hi, e2]⟩
section
variable {P : Program} {w : World} {K : PySem.W.Frag} {mg : Str → Option Value} {base : Heap} {N : List Str} {r : CloR} {A : Around} {outer : List Env} {s : Shared} {H : Hp} {E : XK} {f : Addr} {vs : List V}
/-- entered -/
theorem clo_start (S : CloScope N r) (e0 : Env0 P w K mg base A outer s H) (hd : A.handled = none) (hl : vs.length = r.cl.length) (hc : ∀ p ∈ r.cl.zip vs, ∃ u o, RelV p.2 u ∧ o.data = .cell (some u) ∧ s.heap.get? p.1.2 = some o ∧ H p.1.2 = none)
    {h₁ : Heap} {tk : Nat} (hns : h₁.Ns s.heap.objs.size fun y => ([] : List (Str × Value)).reverse.lookup y) (kp : ∀ b o, s.heap.get? b = some o → h₁.get? b = some o) :
    Inv (cloCx P w K mg base N r A outer s H E f) [] (vs.map some) H { s with heap := h₁, toks := tk } := by
  have at_ : ∀ {y : Str} {c : Addr}, r.cl.lookup y = some c → ∃ (i : Nat) (v : V), N[i]? = some y ∧ vs[i]? = some v ∧ ∃ u o, RelV v u ∧ o.data = .cell (some u) ∧ s.heap.get? c = some o ∧ H c = none := fun {y c} e => by
    obtain ⟨i, e1⟩ := ix_of_lookup e
    have hi : i < r.cl.length := (List.getElem?_eq_some_iff.mp e1).1
    have hv : vs[i]? = some vs[i] := List.getElem?_eq_getElem (by omega)
    have hz : ((y, c), vs[i]) ∈ r.cl.zip vs := List.mem_of_getElem? (i := i) (by rw [List.getElem?_zip_eq_some]; exact ⟨e1, hv⟩)
    exact ⟨i, vs[i], by rw [← S.names, List.getElem?_map, e1]; rfl, hv, hc _ hz⟩
  have noA : ∀ b : Addr, b ∉ (cloCx P w K mg base N r A outer s H E f).ex := fun b z => absurd (show b ∈ ([] : List Addr) from z) (by simp)
  have look : ∀ {y}, r.scope.names.lookup y = some .free → ∃ c, r.cl.lookup y = some c := fun {y} h => by
    have hy := S.free y h
    rw [← S.names] at hy
    obtain ⟨⟨y', c⟩, hm, e⟩ := List.mem_map.mp hy
    have e : y' = y := e
    subst e
    obtain ⟨i, hi, e2⟩ := List.mem_iff_getElem.mp hm
    exact ⟨c, lookup_of_ix (S.names ▸ S.nodup) (i := i) (by rw [List.getElem?_eq_getElem hi, e2])⟩
  refine ⟨⟨e0.mod, S.kind, rfl, rfl, Nat.le_refl _, S.inj, fun y hy => ?_, fun y c z _ => ?_, fun _ => hd, Around.frames_deeper e0.frames, .inr ⟨rfl, rfl⟩, fun b z => absurd z (noA b), e0.bs, e0.bsz, fun b _ _ => noA b,
      fun b z => absurd z (noA b), e0.funs, e0.frf⟩,
    rfl, e0.bare, Un.kept kp, ⟨_, hns, fun i y v e1 e2 e3 => ?_⟩, fun y c e => ?_, e0.hok.fresh (Nat.le_refl _), fun y c e => ?_, fun q hq => absurd (show q ∈ ([] : List (Addr × Obj)) ++ [] from hq) (by simp), e0.hok.kept kp, ?_⟩
  · have hy : r.scope.names.lookup y = some .cell ∨ r.scope.names.lookup y = some .free := hy
    rcases hy with hy | hy
    · exact absurd rfl (S.own _ (PySem.mem_of_lookup hy)).2
    · exact look hy
  · have z : false = true := z
    cases z
  · have e3 : Vis r.scope y := e3
    rcases e3 with k | k | k
    · exact absurd rfl (S.own _ (PySem.mem_of_lookup k)).1
    · exact absurd rfl (S.own _ (PySem.mem_of_lookup k)).2
    · obtain ⟨c, hc1⟩ := look k
      obtain ⟨j, v', n1, v1, u, o, ru, hd1, hg, hn⟩ := at_ hc1
      have hij : i = j := nodup_ix S.nodup e1 n1
      subst hij
      rw [List.getElem?_map, v1] at e2
      cases e2
      exact ⟨u, ru, .inr ⟨.inr k, c, hc1, o, kp _ _ hg, hd1⟩⟩
  · obtain ⟨_, _, _, _, u, o, _, hd1, hg, _⟩ := at_ e
    exact ⟨_, o, kp _ _ hg, hd1⟩
  · obtain ⟨_, _, _, _, u, o, _, hd1, hg, hn⟩ := at_ e
    exact hn
  · show (vs.map some).length = N.length
    rw [List.length_map, hl, ← S.names, List.length_map]
end

/-- what a lambda promises -/
def CloSp (P : Program) (w : World) (K : PySem.W.Frag) (mg : Str → Option Value) (base : Heap) (k : Nat) (r : CloR) (ds : List D) (m : Wm D) : Prop :=
  ∀ (A : Around) (outer : List Env) (s : Shared) (H : Hp) (F : Addr → Prop) (n : Nat) (f : Addr) (Kd : D → Nat → Prop) (Xd : XD → Nat → Prop) (Q : VK) (E : XK), A.guards = some [] → Room k A → Env0 P w K mg base A outer s H → PenB F H n → Has F H (.ref f) (.clo true r ds) → m Kd Xd n →
    (∀ v d F' H' n', Grow F H n F' H' n' → Has F' H' v d → Kd d n' → Q v H') → (∀ cls od xd F' H' n', Grow F H n F' H' n' → HasX F' H' cls od xd → Xd xd n' → E cls od H') → codeAny (model P w) A (.call (.ref f) ⟨[], []⟩) (CR (L2.CX P w) outer P w H s Q E) s
theorem clo_ok {P : Program} {w : World} {K : PySem.W.Frag} {mg : Str → Option Value} {base : Heap} {N : List Str} {r : CloR} {k : Nat} {ds : List D} {t : TD D} (S : CloScope N r) (hp : plainL ds = true)
    (hbody : ∀ (A : Around) (outer : List Env) (s : Shared) (H : Hp) (E : XK) (f : Addr), A.guards = some [] → Room k (A.deeper (cloEnv r s.heap.objs.size f)) → DE (fun _ : Unit => cloCx P w K mg base N r A outer s H E f) (bW E) r.body t) :
    CloSp P w K mg base (k + 1) r ds (t (ds.map fun d => some (.d d))) := by
  intro A outer s H F n f Kd Xd Q E hg hr e0 pb hf hm hq hx
  cases hf with
  | @clo1 _ _ vs _ Ff hf Fc hco hl hs hds =>
  -- the cells, cut out
  obtain ⟨l, hll⟩ : ∃ l, l = r.cl.map (·.2) := ⟨_, rfl⟩
  have inl : ∀ c ∈ l, ∃ p ∈ r.cl.zip vs, p.1.2 = c := fun c hc => by
    rw [hll] at hc
    obtain ⟨p, hp, e⟩ := List.mem_map.mp hc
    obtain ⟨i, hi, e2⟩ := List.mem_iff_getElem.mp hp
    have hv : vs[i]? = some vs[i] := List.getElem?_eq_getElem (by omega)
    exact ⟨(p, vs[i]), List.mem_of_getElem? (i := i) (by rw [List.getElem?_zip_eq_some]; exact ⟨by rw [List.getElem?_eq_getElem hi, e2], hv⟩), e⟩
  have hcell : ∀ c ∈ l, F c ∧ ∃ o u, H c = some (FixO c o) ∧ o.data = .cell (some u) := fun c hc => by
    obtain ⟨p, hp, rfl⟩ := inl c hc
    obtain ⟨a, u, o, _, dd, e⟩ := hs p hp
    exact ⟨a, o, u, e, dd⟩
  have fx : Fixed l H := fun c hc => let ⟨_, o, _, e, _⟩ := hcell c hc; ⟨o, e⟩
  have hF : ∀ c ∈ l, F c := fun c hc => (hcell c hc).1
  have hfr : ∀ c ∈ l, c ∉ frs outer := fun c hc z => by
    obtain ⟨o, e⟩ := fx c hc
    rw [e0.frf c z] at e
    cases e
  have hnb : ∀ c ∈ l, base.get? c = none := fun c hc => by
    cases q : base.get? c with
    | none => rfl
    | some o =>
      obtain ⟨o2, e⟩ := fx c hc
      rw [(e0.bs c o q).2] at e
      cases e
  have e1 : Env0 P w K mg base A outer s (cut l H) := ⟨e0.frames, e0.mod, fun b o e => ⟨(e0.bs b o e).1, by
    by_cases hb : b ∈ l
    · exact cut_in hb
    · rw [cut_out hb]; exact (e0.bs b o e).2⟩, e0.bsz, e0.funs, fun b hb => by
    by_cases hbl : b ∈ l
    · exact cut_in hbl
    · rw [cut_out hbl]; exact e0.frf b hb, hok_cut fx e0.hok, e0.bare⟩
  have hof : s.heap.get? f = some r.obj := fixO_at e0.hok hf
  have hcode : s.heap.CodeRec (.ref r.code) r.qual := by
    have x : ObjOk P w H s.heap r.code (.ext fun h => ∃ (oc : Obj) (vs : Array Value) (t : Tok), h.get? r.code = some oc ∧ oc.data = .fields vs ∧ vs[1]? = some (.str r.qual t)) := e0.hok _ _ hco
    obtain ⟨⟨oc, vs, t, a, b, c⟩, _⟩ := x
    exact ⟨r.code, oc, vs, t, rfl, a, b, c⟩
  refine PySem.W.kla_callFunE hr.depth hof rfl S.co S.gen rfl hcode ?_
  rw [S.bind]
  refine wpAny_pure (wpAny_newFunctionEnv (fun y hy => (S.own y hy).2) (fun y hy => absurd hy (by simp)) (fun h₁ hns hsb => ⟨(e0.mod.nolimit.keeps fun b o e => (e0.bs b o e).1).fresh _ hsb, ?_⟩) S.kind)
  show codeAny _ _ (.expr r.body (cloEnv r s.heap.objs.size f)) _ _
  have kp : ∀ b o, s.heap.get? b = some o → h₁.get? b = some o := fun b o e => hsb.extBut b o (Nat.ne_of_lt (Heap.lt_size e)) (Heap.get?_push_of_some _ e)
  let E' : XK := fun cls od H' => ∃ xd F' n', Grow (cutF l F) (cut l H) n F' H' n' ∧ HasX F' H' cls od xd ∧ Xd xd n'
  have J : Inv (cloCx P w K mg base N r A outer s (cut l H) E' f) [] (vs.map some) (cut l H) { s with heap := h₁, toks := s.toks + ([] : List (Str × Value)).length } :=
    clo_start S e1 hr.hd hl (fun p hp => let ⟨_, u, o, ru, dd, e⟩ := hs p hp; ⟨u, o, ru, dd, fixO_at e0.hok e, cut_in (by rw [hll]; exact List.mem_map.mpr ⟨p.1, (List.of_mem_zip hp).1, rfl⟩)⟩) hns kp
  obtain ⟨te, pe, re⟩ := hbody A outer s (cut l H) E' f hg (hr.deeper _)
  have hps : HasS (cutF l F) (cut l H) n (vs.map some) (ds.map fun d => some (.d d)) := ⟨pb.cut e0.hok (fun c hc => (hcell c hc).2), by rw [List.length_map, List.length_map, hds.len], fun i x e => by
    rw [List.getElem?_map] at e
    obtain ⟨d, e1, e2⟩ := Option.map_eq_some_iff.mp e
    cases e2
    obtain ⟨v, e3, hv⟩ := (hds.cut fx hp).get e1
    exact ⟨v, by rw [List.getElem?_map, e3]; rfl, hv⟩⟩
  have ht : te (vs.map some) (cut l H) (fun v H' => ∃ d F' n', Grow (cutF l F) (cut l H) n F' H' n' ∧ Has F' H' v d ∧ Kd d n') := re _ _ n _ _ Kd Xd _ hps hm (fun v d F' H' n' g hv hk => ⟨d, F', n', g, hv, hk⟩) fun cls od xd F' H' n' g hx' hk => ⟨xd, F', n', g, hx', hk⟩
  have fin : ∀ {er : Value} {s' : Shared}, L2.CX P w outer (cut l H) s E' er s' → L2.CX P w outer H s E er s' := fun {er s'} z => by
    obtain ⟨a, B, H', cls, d, ea, fl, hokB, ub, na, os, ag, xd, F', n', g, hx', hk⟩ := z
    obtain ⟨ub2, hok2, hn, hB⟩ := ub_lay fx e0.hok hfr ub hokB
    have hal : a ∉ l := fun z => by
      obtain ⟨o, e⟩ := hB a z
      rw [fl.2.1] at e
      cases e
    refine ⟨a, B, lay l H H', cls, d, ea, fl, hok2, ub2, by rw [lay_out hal]; exact na, os, ag, ?_⟩
    exact hx cls d xd _ _ n' (g.lay fx hF hn) (hx'.later (later_lay (n := n') hn) fun a fs e => by rw [lay_out (fun z => by rw [hn a z] at e; cases e)]; exact e) hk
  refine PySem.W.kla_codeExpr (wpAny_mono ((pe ()).run [] _ _ (cut l H) _ J ht) (fun v s' hq' => ?_) fun e s' z => wpAny_mono (show wpAny _ _ _ _ _ _ from z) (fun _ s'' z => fin z) fun _ s'' z => fin z)
  obtain ⟨v', H', J', rv, d, F', n', g, hv, hk⟩ := hq'
  obtain ⟨un2, hok2, hn⟩ := un_lay fx e0.hok hfr J'.base J'.hok
  exact ⟨v', lay l H H', J'.os, J'.bare, un2, hok2, rv, hq v' d _ _ n' (g.lay fx hF hn) (hv.later (later_lay (n := n') hn)) hk⟩
end DL


set_option maxRecDepth 100000
set_option maxHeartbeats 2000000
/-! DL9: lambdas made, rows of them handed on, called. Own work over HandS. -/
namespace DL
open PySem PySem.Spec PyProof.Rows L2

/-! ### work() -/
def cloW (P : Program) (w : World) (K : PySem.W.Frag) (mg : Str → Option Value) (base : Heap) (k : Nat) : D → Wm D
  | .clo true r ds => fun Kd Xd n => ∃ m : Wm D, CloSp P w K mg base k r ds m ∧ m Kd Xd n
  | _ => Wm.fail
section
variable {ι : Type} {X : ι → Cx} {W : WX} {P : Program} {w : World} {K : PySem.W.Frag} {mg : Str → Option Value} {base : Heap}
theorem DE.act {x : Str} {i k : Nat} {p1 p2 : Pos} (hP : ∀ j, (X j).prog = P ∧ (X j).w = w ∧ (X j).K = K ∧ (X j).mg = mg ∧ (X j).base = base) (hgd : ∀ j, (X j).A.guards = some []) (hr : ∀ j, Room k (X j).A) (tk : ∀ j, Takes (X j) W) (hv : ∀ j, PE (X j) (.Name x p1) (tVar i)) :
    DE X W (.Call (.Name x p1) [] [] p2) (fun ρ => do cloW P w K mg base k (← getD i ρ)) := by
  refine ⟨fun σ H Q => ∃ (f : Addr) (r : CloR), σ[i]? = some (some (.ref f)) ∧ H f = some (FixO f r.obj) ∧ ∀ (A : Around) (outer : List Env) (s : Shared), A.guards = some [] → Room k A → Env0 P w K mg base A outer s H → codeAny (model P w) A (.call (.ref f) ⟨[], []⟩) (CR (L2.CX P w) outer P w H s Q (WE W σ)) s, fun j => ⟨fun pins s σ H Q I h => ?_⟩, fun F H n σ ρ Kd Kx Q hs ht hq hx => ?_⟩
  · obtain ⟨f, r, h0, hf, hc⟩ := h
    obtain ⟨eP, ew, eK, em, eb⟩ := hP j
    subst eP ew eK em eb
    refine wpAny_Call_Name_kw (thn ((hv j).run pins s σ H (fun v H1 => v = .ref f ∧ H1 = H) I ⟨.ref f, h0, rfl, rfl⟩) fun u s1 ⟨v, H1, I1, r1, q1⟩ => ?_)
    obtain ⟨ev, eH⟩ := q1
    subst ev
    rw [eH] at I1
    obtain rfl : u = Value.ref f := r1
    refine PySem.W.callWith_F0 ⟨_, _, _, _, fixO_at I1.hok hf⟩ ?_
    refine wpAny_call (codeAny_mono (hc (X j).A (X j).stack s1 (hgd j) (hr j) I1.env0) fun res s' hq => ?_)
    match res, hq with
    | .error er, hq => exact passAt (tk j) σ pins H s1 er s' I1 hq
    | .ok (.ret u), hq => exact I1.after hq
  · obtain ⟨d, e1, ht1⟩ := getD_run (show getD i ρ (fun d n' => cloW P w K mg base k d Kd Kx n') Kx n from ht)
    obtain ⟨v, e2, hv'⟩ := hs.at_ _ _ e1
    have hv' : Has F H v d := hv'
    cases d with
    | clo b r ds =>
      cases b with
      | false => exact ht1.elim
      | true =>
        obtain ⟨m, sp, hm⟩ := ht1
        cases id hv' with
        | @clo1 f _ vs _ Ff hf _ _ _ _ _ =>
          exact ⟨f, r, e2, hf, fun A outer s hg hr e0 => sp A outer s H F n f Kd Kx Q _ hg hr e0 hs.pb hv' hm hq hx⟩
    | _ => exact ht1.elim
end

/-! ### a lambda made -/
/-- a lambda of this text, made by a def of these cells -/
structure LamR (cells : List (Str × Addr)) (ps : Arguments) (bd : Expr) (sc : Scope) (r : CloR) : Prop where
  qual : r.qual = qLam
  params : r.params = ps
  body : r.body = bd
  scope : r.scope = sc
  cl : r.cl = cloFrom cells sc.names []
def tLamN (P : Addr) (cells : List (Str × Addr)) (params : Arguments) (body : Expr) (scope : Scope) : TE := fun _ H Q => ∃ ps, H P = some (.tbl ps) ∧ TriplesOk ps.toList ∧ (∀ (pos : Pos) (cv : Value), codeAmong pos ps.toList = some cv → ∃ c, cv = .ref c ∧ H c = some (CodO c qLam)) ∧
  ∀ (r : CloR) (f : Addr) (H2 : Hp), LamR cells params body scope r → (H2 = H ∧ H r.code = some (CodO r.code qLam) ∧ (∃ pos, codeAmong pos ps.toList = some (.ref r.code)) ∨ H r.code = none ∧ ∃ (p : Pos), H2 = upd (upd H P (.tbl (ps ++ #[rawInt p.line, rawInt p.col, .ref r.code]))) r.code (CodO r.code qLam)) → H2 f = none → Q (.ref f) (upd H2 f (FixO f r.obj))
section
variable {X : Cx} {P c : Addr} {params : Arguments} {body : Expr} {scope : Scope} {pos : Pos}
theorem pe_lamN (TB : LamX.TabB X.base X.mg c P) (hcode : X.env.code = .ref c) (hq : X.env.qual ++ "<lambda>" = qLam) (hdef : defaultsOf params X.env = ([], [])) (hfree : ∀ y ∈ scope.names, y.2 = .free → ∃ c, X.env.cells.lookup y.1 = some c) :
    PE X (.Lambda params body scope pos) (tLamN P X.env.cells params body scope) := by
  refine ⟨fun pins s σ H Q I h => ?_⟩
  obtain ⟨ps, hP, ht, ha, h⟩ := h
  refine PySem.W.kla_eval hdef ?_
  rw [hq]
  have bP : s.heap.BuiltinsAt X.mg P := TB.bm.keeps I.bk
  have hP' : s.heap.get? P = some { cls := .none, data := .fields ps } := I.hok P _ hP
  have build : ∀ (r : CloR) (H2 : Hp) (h' : Heap) (tk : Nat), LamR X.env.cells params body scope r → (H2 = H ∧ H r.code = some (CodO r.code qLam) ∧ (∃ pos, codeAmong pos ps.toList = some (.ref r.code)) ∨ H r.code = none ∧ ∃ (p : Pos), H2 = upd (upd H P (.tbl (ps ++ #[rawInt p.line, rawInt p.col, .ref r.code]))) r.code (CodO r.code qLam)) →
      Inv X pins σ H2 { s with heap := h', toks := tk } → EP X pins σ Q (.ref h'.objs.size) { s with heap := h'.push r.obj, toks := tk } := fun r H2 h' tk lr hc I2 => by
    have hn : H2 h'.objs.size = none := I2.hok.fresh (Nat.le_refl _)
    have I3 : Inv X pins σ (upd H2 h'.objs.size (FixO h'.objs.size r.obj)) { s with heap := h'.push r.obj, toks := tk } :=
      I2.laid (t' := tk) (a := h'.objs.size) (o := FixO h'.objs.size r.obj) (h' := h'.push r.obj) (fun _ _ e => Heap.get?_push_of_some _ e) (Nat.le_refl _) (fixO_ok (Heap.get?_push_size _ rfl))
    exact ⟨.ref h'.objs.size, _, I3, rfl, h r h'.objs.size H2 lr hc hn⟩
  cases hc : codeAmong pos ps.toList with
  | none =>
    refine PySem.W.kla_makeFunction (mg := X.mg) (c := c) (P := P) (ps := ps) (closure_ok hfree) I.ok.glob (I.mod.glob.keeps I.bk) hcode (TB.code.keeps I.bk) hP' ht hc TB.gP bP fun c' ctv h' tk hx hge hlt hrec htb => ?_
    obtain ⟨c2, oc, vs, t, e2, hoc, hd, hv⟩ := hrec
    cases e2
    have nC : H c' = none := I.hok.fresh hge
    have I1 : Inv X pins σ (upd (upd H P (.tbl (ps ++ #[rawInt pos.line, rawInt pos.col, .ref c']))) c' (CodO c' qLam)) { s with heap := h', toks := tk } := LamX.inv_table (t' := tk) (more := #[rawInt pos.line, rawInt pos.col, .ref c']) (h' := h') I hP (fun b o hb e => hx b o hb e) htb hge ⟨oc, vs, t, hoc, hd, hv⟩
    exact build ⟨qLam, params, body, scope, cloFrom X.env.cells scope.names [], (X.mg "__name__").getD .none, c', ctv⟩ _ h' tk ⟨rfl, rfl, rfl, rfl, rfl⟩ (.inr ⟨nC, pos, rfl⟩) I1
  | some cv =>
    obtain ⟨c', e, hco⟩ := ha pos cv hc
    subst e
    refine PySem.W.kla_makeFunctionHit (mg := X.mg) (c := c) (P := P) (ps := ps) (closure_ok hfree) I.ok.glob (I.mod.glob.keeps I.bk) hcode (TB.code.keeps I.bk) hP' ht hc bP fun ctv h' tk hx hsz => ?_
    have I1 : Inv X pins σ H { s with heap := h', toks := tk } := I.kept fun b o e => hx b o e
    exact build ⟨qLam, params, body, scope, cloFrom X.env.cells scope.names [], (X.mg "__name__").getD .none, c', ctv⟩ _ h' tk ⟨rfl, rfl, rfl, rfl, rfl⟩ (.inl ⟨rfl, hco, pos, hc⟩) I1
end
/-- by data: some lambda of this text -/
def dLam (cells : List (Str × Addr)) (params : Arguments) (body : Expr) (scope : Scope) : TD D := fun _ Kd _ n => ∀ r : CloR, LamR cells params body scope r → Kd (.clo false r []) n
/-- the table of the law's lambdas is tracked -/
def TabAt (P : Addr) (H : Hp) : Prop := ∃ ps, H P = some (.tbl ps)
theorem run_lamN {W : WX} {P : Addr} {cells : List (Str × Addr)} {params : Arguments} {body : Expr} {scope : Scope} {F : Addr → Prop} {H : Hp} {n : Nat} {σ : L2.St} {ρ : Env'} {Kd : D → Nat → Prop} {Kx : XD → Nat → Prop} {Q : VK} (ht : TabAt P H) (hs : HasS F H n σ ρ) (h : dLam cells params body scope ρ Kd Kx n)
    (hq : ∀ v d F' H' n', Grow F H n F' H' n' → Has F' H' v d → Kd d n' → Q v H') : tLamN P cells params body scope σ H Q := by
  obtain ⟨ps, hP⟩ := ht
  have tb := hs.pb.tb P ps hP
  refine ⟨ps, hP, tb.tr, fun pos cv e => let ⟨c, e1, _, e2⟩ := tb.at_ pos cv e; ⟨c, e1, e2⟩, fun r f H2 lr hc hf => ?_⟩
  rcases hc with ⟨rfl, hco, pos, hcd⟩ | ⟨nC, p, rfl⟩
  · obtain ⟨c, e1, Fc, e2⟩ := tb.at_ pos _ hcd
    cases e1
    have g : Grow F H2 n (plusF F f) (upd H2 f (FixO f r.obj)) n := .laid hs.pb hf .ext
    refine hq _ _ _ _ n g (.clo0 plusF_same upd_same (.inl Fc) ?_) (h r lr)
    rw [upd_ne (ne_of_none hco hf), hco, lr.qual]
  · have hPc : P ≠ r.code := ne_of_none hP nC
    have hPf : f ≠ P := fun e => by rw [e, upd_ne hPc, upd_same] at hf; cases hf
    have hfc : f ≠ r.code := fun e => by rw [e, upd_same] at hf; cases hf
    have hf0 : H f = none := by rw [upd_ne hfc, upd_ne hPf] at hf; exact hf
    have at_ : ∀ b, b ≠ P → b ≠ r.code → b ≠ f → upd (upd (upd H P (.tbl (ps ++ #[rawInt p.line, rawInt p.col, .ref r.code]))) r.code (CodO r.code qLam)) f (FixO f r.obj) b = H b := fun b h1 h2 h3 => by rw [upd_ne h3, upd_ne h2, upd_ne h1]
    have atC : upd (upd (upd H P (.tbl (ps ++ #[rawInt p.line, rawInt p.col, .ref r.code]))) r.code (CodO r.code qLam)) f (FixO f r.obj) r.code = some (CodO r.code qLam) := by rw [upd_ne (Ne.symm hfc), upd_same]
    have atP : upd (upd (upd H P (.tbl (ps ++ #[rawInt p.line, rawInt p.col, .ref r.code]))) r.code (CodO r.code qLam)) f (FixO f r.obj) P = some (.tbl (ps ++ #[rawInt p.line, rawInt p.col, .ref r.code])) := by rw [upd_ne (Ne.symm hPf), upd_ne hPc, upd_same]
    have nP : ∀ {b : Addr} {u : HO}, H b = some u → Hard u → b ≠ P := fun e hu z => by
      rw [z, hP] at e
      exact hu.tbl ps (Option.some.inj e).symm
    have sub : ∀ {b : Addr} {u : HO}, H b = some u → Hard u → upd (upd (upd H P (.tbl (ps ++ #[rawInt p.line, rawInt p.col, .ref r.code]))) r.code (CodO r.code qLam)) f (FixO f r.obj) b = some u := fun {b u} e hu => by
      rw [at_ b (nP e hu) (ne_of_none e nC) (ne_of_none e hf0)]
      exact e
    refine hq _ _ (fun b => F b ∨ b = f ∨ b = r.code) _ n ⟨fun b o e => ?_, fun b fb => .inl fb, fun b fb => ?_, ⟨fun b c q e => ?_, fun b fb => ?_, fun Q qs e => ?_⟩, Nat.le_refl _⟩ (.clo0 (.inr (.inl rfl)) upd_same (.inr (.inr rfl)) (by rw [atC, lr.qual])) (h r lr)
    · by_cases hb : b = P
      · subst hb
        rw [hP] at e
        cases e
        exact .inr (.inr ⟨ps, _, rfl, atP⟩)
      · exact .inl (by rw [at_ b hb (ne_of_none e nC) (ne_of_none e hf0)]; exact e)
    · rcases fb with fb | rfl | rfl
      · exact .inl fb
      · exact .inr hf0
      · exact .inr nC
    · by_cases h1 : b = f
      · subst h1; rw [upd_same] at e; cases e
      · by_cases h2 : b = r.code
        · subst h2; rw [atC] at e; cases e
        · by_cases h3 : b = P
          · subst h3; rw [atP] at e; cases e
          · rw [at_ b h3 h2 h1] at e
            exact hs.pb.ct b c q e
    · by_cases h1 : b = f
      · subst h1; exact ⟨_, upd_same⟩
      · by_cases h2 : b = r.code
        · subst h2; exact ⟨_, atC⟩
        · by_cases h3 : b = P
          · subst h3; exact ⟨_, atP⟩
          · rw [at_ b h3 h2 h1]
            exact hs.pb.dom b (fb.resolve_right fun z => z.elim h1 h2)
    · have old : ∀ qs, H Q = some (.tbl qs) → TblOk (fun b => F b ∨ b = f ∨ b = r.code) (upd (upd (upd H P (.tbl (ps ++ #[rawInt p.line, rawInt p.col, .ref r.code]))) r.code (CodO r.code qLam)) f (FixO f r.obj)) qs := fun qs e => (hs.pb.tb Q qs e).mono (fun _ => .inl) fun c _ q => sub q .ext
      by_cases h1 : Q = f
      · subst h1; rw [upd_same] at e; cases e
      · by_cases h2 : Q = r.code
        · subst h2; rw [atC] at e; cases e
        · by_cases h3 : Q = P
          · subst h3
            rw [atP] at e
            cases e
            obtain ⟨t1, t2⟩ := old ps hP
            have eL : (ps ++ #[rawInt p.line, rawInt p.col, .ref r.code]).toList = ps.toList ++ [rawInt p.line, rawInt p.col, .ref r.code] := by simp
            refine ⟨by rw [eL]; exact PySem.TriplesOk_snoc _ _ _ _ t1, fun p' cv hcv => ?_⟩
            rw [eL] at hcv
            rcases LamX.among_app _ t1 hcv with z | z
            · exact t2 p' cv z
            · exact ⟨r.code, z, .inr (.inr rfl), atC⟩
          · rw [at_ Q h3 h2 h1] at e
            exact old qs e

def tabD (P : Addr) (cells : List (Str × Addr)) (params : Arguments) (body : Expr) (scope : Scope) : D → TD D
  | .scr _ _ tabs => fun ρ => do Wm.need (P ∈ tabs); dLam cells params body scope ρ
  | _ => fun _ => Wm.fail
section
variable {ι : Type} {X : ι → Cx} {W : WX}
/-- lambda: body, in the law; slot i: the script -/
theorem DE.lam {P c : Addr} {i : Nat} {params : Arguments} {body : Expr} {scope : Scope} {pos : Pos} {cells : List (Str × Addr)} (hcl : ∀ j, (X j).env.cells = cells) (TB : ∀ j, LamX.TabB (X j).base (X j).mg c P) (hcode : ∀ j, (X j).env.code = .ref c) (hq : ∀ j, (X j).env.qual ++ "<lambda>" = qLam) (hdef : ∀ j, defaultsOf params (X j).env = ([], []))
    (hfree : ∀ j, ∀ y ∈ scope.names, y.2 = .free → ∃ c, (X j).env.cells.lookup y.1 = some c) : DE X W (.Lambda params body scope pos) (fun ρ => do let s ← getD i ρ; tabD P cells params body scope s ρ) := by
  refine ⟨tLamN P cells params body scope, fun j => by rw [← hcl j]; exact pe_lamN (TB j) (hcode j) (hq j) (hdef j) (hfree j), fun F H n σ ρ Kd Kx Q hs ht hq hx => ?_⟩
  obtain ⟨d, e1, ht1⟩ := getD_run (show getD i ρ (fun d n' => tabD P cells params body scope d ρ Kd Kx n') Kx n from ht)
  obtain ⟨v, e2, hv⟩ := hs.at_ _ _ e1
  have hv : Has F H v d := hv
  cases hv <;> try exact ht1.elim
  rename_i hT
  obtain ⟨hm, hk⟩ := ht1
  exact run_lamN (W := W) (hT P hm).2 hs hk hq
end

/-! ### rows of lambdas handed to a def -/
mutual
/-- the lambdas' captured values told -/
def tellD (cap : Str → D) : D → D
  | .clo _ r _ => .clo true r (r.cl.map fun p => cap p.1)
  | .tup ds => .tup (tellL cap ds)
  | .lst ds => .lst (tellL cap ds)
  | .non => .non
  | .bl b => .bl b
  | .int i => .int i
  | .str x => .str x
  | .dic ks ds => .dic ks ds
  | .obj C ns ds => .obj C ns ds
  | .exc C ns ds => .exc C ns ds
  | .pen => .pen
  | .fnA a => .fnA a
  | .scr K ns t => .scr K ns t
def tellL (cap : Str → D) : List D → List D
  | [] => []
  | d :: ds => tellD cap d :: tellL cap ds
end
mutual
/-- each lambda's cells are among the told ones; dicts and objects bear none -/
def tellOk (ok : CloR → Prop) : D → Prop
  | .clo _ r _ => ok r
  | .tup ds => tellOkL ok ds
  | .lst ds => tellOkL ok ds
  | .non => True
  | .bl _ => True
  | .int _ => True
  | .str _ => True
  | .dic ks ds => plainD (.dic ks ds) = true
  | .obj C ns ds => plainD (.obj C ns ds) = true
  | .exc _ _ _ => False
  | .pen => False
  | .fnA _ => True
  | .scr _ _ _ => False
def tellOkL (ok : CloR → Prop) : List D → Prop
  | [] => True
  | d :: ds => tellOk ok d ∧ tellOkL ok ds
end
section
variable {l : List Addr} {F : Addr → Prop} {H f : Hp}
mutual
theorem Has.lay (hn : ∀ c ∈ l, H c = none) : ∀ {v : V} {d : D}, Has F H v d → plainD d = true → Has (layF l F) (DL.lay l f H) v d
  | _, _, .non, _ => .non
  | _, _, .bl b, _ => .bl b
  | _, _, .int i, _ => .int i
  | _, _, .str x, _ => .str x
  | _, _, .tup (a := a) Fa h k, e => .tup (.inl Fa) ((lay_out fun z => by rw [hn a z] at h; cases h).trans h) (HasL.lay hn k (by unfold plainD at e; exact e))
  | _, _, .lst (a := a) Fa h k, e => .lst (.inl Fa) ((lay_out fun z => by rw [hn a z] at h; cases h).trans h) (HasL.lay hn k (by unfold plainD at e; exact e))
  | _, _, .dic (a := a) Fa h q z k, e => .dic (.inl Fa) ((lay_out fun z => by rw [hn a z] at h; cases h).trans h) q z (HasL.lay hn k (by unfold plainD at e; exact e))
  | _, _, .obj (a := a) Fa h z k, e => .obj (.inl Fa) ((lay_out fun z => by rw [hn a z] at h; cases h).trans h) z (HasL.lay hn k (by unfold plainD at e; exact e))
  | _, _, .pen _ _ _ _ _ _, e => by unfold plainD at e; cases e
  | _, _, .clo0 _ _ _ _, e => by unfold plainD at e; cases e
  | _, _, .clo1 _ _ _ _ _ _ _, e => by unfold plainD at e; cases e
  | _, _, .fnA a, _ => .fnA a
  | _, _, .exc _ _ _ _ _ _, e => by unfold plainD at e; cases e
  | _, _, .exc0 _ _, e => by unfold plainD at e; cases e
  | _, _, .scr _ _, e => by unfold plainD at e; cases e
theorem HasL.lay (hn : ∀ c ∈ l, H c = none) : ∀ {vs : List V} {ds : List D}, HasL F H vs ds → plainL ds = true → HasL (layF l F) (DL.lay l f H) vs ds
  | _, _, .nil, _ => .nil
  | _, _, .cons h k, e => by
    unfold plainL at e
    obtain ⟨e1, e2⟩ := Bool.and_eq_true_iff.mp e
    exact .cons (Has.lay hn h e1) (HasL.lay hn k e2)
end
/-- what is known of a told cell -/
def Told (l : List Addr) (F : Addr → Prop) (H f : Hp) (cap : Str → D) (p : Str × Addr) : Prop := p.2 ∈ l ∧ ∃ v u o, RelV v u ∧ o.data = .cell (some u) ∧ f p.2 = some (FixO p.2 o) ∧ Has (layF l F) (DL.lay l f H) v (cap p.1)
theorem told_all {cap : Str → D} : ∀ {cl : List (Str × Addr)}, (∀ p ∈ cl, Told l F H f cap p) → ∃ vs, vs.length = cl.length ∧ (∀ p ∈ cl.zip vs, (layF l F) p.1.2 ∧ ∃ u o, RelV p.2 u ∧ o.data = .cell (some u) ∧ DL.lay l f H p.1.2 = some (FixO p.1.2 o)) ∧ HasL (layF l F) (DL.lay l f H) vs (cl.map fun p => cap p.1)
  | [], _ => ⟨[], rfl, fun p hp => by simp at hp, .nil⟩
  | q :: cl, h => by
    obtain ⟨vs, h1, h2, h3⟩ := told_all (cl := cl) fun p hp => h p (List.mem_cons_of_mem _ hp)
    obtain ⟨hl, v, u, o, ru, dd, e, hv⟩ := h q List.mem_cons_self
    refine ⟨v :: vs, by simp [h1], fun p hp => ?_, .cons hv h3⟩
    rw [List.zip_cons_cons] at hp
    rcases List.mem_cons.mp hp with rfl | hp
    · exact ⟨.inr hl, u, o, ru, dd, by rw [lay_in hl]; exact e⟩
    · exact h2 p hp
mutual
theorem Has.tell {cap : Str → D} (hn : ∀ c ∈ l, H c = none) : ∀ {v : V} {d : D}, Has F H v d → tellOk (fun r => ∀ p ∈ r.cl, Told l F H f cap p) d → Has (layF l F) (DL.lay l f H) v (tellD cap d)
  | _, _, .non, _ => by unfold tellD; exact .non
  | _, _, .bl b, _ => by unfold tellD; exact .bl b
  | _, _, .int i, _ => by unfold tellD; exact .int i
  | _, _, .str x, _ => by unfold tellD; exact .str x
  | _, _, .tup (a := a) Fa h k, e => by unfold tellD; unfold tellOk at e; exact .tup (.inl Fa) ((lay_out fun z => by rw [hn a z] at h; cases h).trans h) (HasL.tell hn k e)
  | _, _, .lst (a := a) Fa h k, e => by unfold tellD; unfold tellOk at e; exact .lst (.inl Fa) ((lay_out fun z => by rw [hn a z] at h; cases h).trans h) (HasL.tell hn k e)
  | _, _, .dic Fa h q z k, e => by unfold tellD; unfold tellOk at e; exact (Has.dic Fa h q z k).lay hn e
  | _, _, .obj Fa h z k, e => by unfold tellD; unfold tellOk at e; exact (Has.obj Fa h z k).lay hn e
  | _, _, .pen _ _ _ _ _ _, e => by unfold tellOk at e; exact e.elim
  | _, _, .clo0 (a := a) (r := r) Fa h Fc hc, e => by
    unfold tellOk at e
    unfold tellD
    obtain ⟨vs, h1, h2, h3⟩ := told_all e
    exact .clo1 (.inl Fa) ((lay_out fun z => by rw [hn a z] at h; cases h).trans h) (.inl Fc) ((lay_out fun z => by rw [hn _ z] at hc; cases hc).trans hc) h1 h2 h3
  | _, _, .clo1 (a := a) (r := r) Fa h Fc hc _ _ _, e => by
    unfold tellOk at e
    unfold tellD
    obtain ⟨vs, h1, h2, h3⟩ := told_all e
    exact .clo1 (.inl Fa) ((lay_out fun z => by rw [hn a z] at h; cases h).trans h) (.inl Fc) ((lay_out fun z => by rw [hn _ z] at hc; cases hc).trans hc) h1 h2 h3
  | _, _, .fnA a, _ => by unfold tellD; exact .fnA a
  | _, _, .exc _ _ _ _ _ _, e => by unfold tellOk at e; exact e.elim
  | _, _, .exc0 _ _, e => by unfold tellOk at e; exact e.elim
  | _, _, .scr _ _, e => by unfold tellOk at e; exact e.elim
theorem HasL.tell {cap : Str → D} (hn : ∀ c ∈ l, H c = none) : ∀ {vs : List V} {ds : List D}, HasL F H vs ds → tellOkL (fun r => ∀ p ∈ r.cl, Told l F H f cap p) ds → HasL (layF l F) (DL.lay l f H) vs (tellL cap ds)
  | _, _, .nil, _ => by unfold tellL; exact .nil
  | _, _, .cons h k, e => by
    unfold tellOkL at e
    unfold tellL
    exact .cons (Has.tell hn h e.1) (HasL.tell hn k e.2)
end
end

theorem PenB.lay {l : List Addr} {F : Addr → Prop} {H f : Hp} {n : Nat} (pb : PenB F H n) (fx : Fixed l f) (hn : ∀ c ∈ l, H c = none) : PenB (layF l F) (DL.lay l f H) n where
  ct := fun a c p e => by
    by_cases ha : a ∈ l
    · rw [lay_in ha] at e; exact absurd ha (fx.out e fun _ _ => fix_dK)
    · rw [lay_out ha] at e; exact pb.ct a c p e
  dom := fun a h => by
    by_cases ha : a ∈ l
    · rw [lay_in ha]
      obtain ⟨o, e⟩ := fx a ha
      exact ⟨_, e⟩
    · rw [lay_out ha]; exact pb.dom a (h.resolve_right ha)
  tb := fun Q ps e => by
    by_cases ha : Q ∈ l
    · rw [lay_in ha] at e; exact absurd ha (fx.out e fun _ _ => fix_tbl)
    · rw [lay_out ha] at e
      exact (pb.tb Q ps e).mono (fun _ => .inl) fun c _ q => (lay_out fun z => by rw [hn c z] at q; cases q).trans q
theorem PenB.cutC {l : List Addr} {F : Addr → Prop} {H : Hp} {n : Nat} (pb : PenB F H n) (hc : ∀ c ∈ l, H c ≠ some (CodO c qLam)) : PenB (cutF l F) (DL.cut l H) n where
  ct := fun a c p e => by
    by_cases ha : a ∈ l
    · rw [cut_in ha] at e; cases e
    · rw [cut_out ha] at e; exact pb.ct a c p e
  dom := fun a h => by
    rw [cut_out h.2]
    exact pb.dom a h.1
  tb := fun Q ps e => by
    by_cases ha : Q ∈ l
    · rw [cut_in ha] at e; cases e
    · rw [cut_out ha] at e
      obtain ⟨t1, t2⟩ := pb.tb Q ps e
      exact ⟨t1, fun pos cv z => let ⟨c, e1, h, e2⟩ := t2 pos cv z; have hcl : c ∉ l := fun z => hc c z e2; ⟨c, e1, ⟨h, hcl⟩, (cut_out hcl).trans e2⟩⟩
theorem Grow.cut {l : List Addr} {F F' : Addr → Prop} {H H' f : Hp} {n n' : Nat} (pb : PenB F H n) (hn : ∀ c ∈ l, H c = none) (fx : Fixed l f) (hc : ∀ c ∈ l, f c ≠ some (CodO c qLam)) (g : Grow (layF l F) (DL.lay l f H) n F' H' n') : Grow F H n (cutF l F') (DL.cut l H') n' ∧ ∀ c ∈ l, H' c = f c := by
  have hk : ∀ c ∈ l, H' c = f c := fun c hcl => by
    obtain ⟨o, e⟩ := fx c hcl
    rw [e]
    exact g.keepL ((lay_in hcl).trans e) .ext
  have off : ∀ {b : Addr} {u : HO}, H b = some u → b ∉ l := fun q z => by rw [hn _ z] at q; cases q
  refine ⟨⟨fun a o e => ?_, fun a h => ?_, fun a h => ?_, g.pb.cutC fun c hcl e => hc c hcl (by rw [← hk c hcl]; exact e), g.le⟩, hk⟩
  · rw [cut_out (off e)]
    exact g.keep a o ((lay_out (off e)).trans e)
  · obtain ⟨o, e⟩ := pb.dom a h
    exact ⟨g.sub a (.inl h), off e⟩
  · rcases g.new a h.1 with z | z
    · exact .inl (z.resolve_right h.2)
    · rw [lay_out h.2] at z; exact .inr z

/-- f(.., rows of lambdas ..) in the def whose cells they bear; idx: the slots of the captured names -/
def tTell (sp : Sp) (cells : List (Str × Addr)) (caps : List Str) (idx : Str → Nat) (ta : TA) : TE := fun σ H Q => ta σ H fun vs H1 => (∀ y ∈ caps, ∃ v, σ[idx y]? = some (some v)) ∧
  ∀ f : Hp, Fixed (caps.filterMap (fun y => cells.lookup y)) f → (∀ c ∈ caps.filterMap (fun y => cells.lookup y), H1 c = none ∧ f c ≠ some (CodO c qLam)) → (∀ y ∈ caps, ∃ c v u o, cells.lookup y = some c ∧ σ[idx y]? = some (some v) ∧ RelV v u ∧ o.data = .cell (some u) ∧ f c = some (FixO c o)) →
    sp vs (lay (caps.filterMap (fun y => cells.lookup y)) f H1) (fun v H2 => (∀ c ∈ caps.filterMap (fun y => cells.lookup y), H2 c = f c) ∧ Q v (cut (caps.filterMap (fun y => cells.lookup y)) H2)) (fun _ _ _ => False)
section
variable {X : Cx} {k : Nat} {f : Addr} {fd : FuncData} {ps : List Str} {sp : Sp} {x : Str} {p pos : Pos} {e : Expr} {es : List Expr} {ta : TA} {caps : List Str} {idx : Str → Nat}
theorem pe_tell (F : FnG X.prog X.w X.K X.mg X.base k f fd ps sp) (hgd : X.A.guards = some []) (hr : Room k X.A) (hg : Gl X x) (hm : X.mg x = some (.ref f)) (hk : PySem.W.keepIn X.K (.ref f) = true) (hb : Binds X.K fd ps [])
    (hfn : ∀ y ∈ caps, X.fn y = true) (hcap : ∀ y ∈ caps, X.env.scope.names.lookup y = some .cell ∧ X.N[idx y]? = some y) (ha : PA X (e :: es) ta) (hdb : (x == ("__debug__" : Str)) = false := by decide) (he : starEach (e :: es) X.env = (false, eval e X.env) :: starEach es X.env := by rfl) (hpl : (backTo pos (starEach es X.env)).any (·.1) = false := by rfl) :
    PE X (.Call (.Name x p) (e :: es) [] pos) (tTell sp X.env.cells caps idx ta) := by
  refine ⟨fun pins s σ H Q I h => wpAny_Call_Name_kw (ld_glob I hg hm ?_ hdb)⟩
  refine PySem.W.callWith_K (h₀ := X.base) I.ok.mod.kin hk (thn (ha.run pos pins s σ H _ I h) ?_) he hpl
  rintro us s1 ⟨vs, H1, I1, r, hset, q⟩
  refine ⟨I1.kIn, ?_⟩
  obtain ⟨l, hl⟩ : ∃ l, l = caps.filterMap (fun y => X.env.cells.lookup y) := ⟨_, rfl⟩
  rw [← hl] at q
  have ofl : ∀ c ∈ l, ∃ y ∈ caps, X.env.cells.lookup y = some c := fun c hc => by
    rw [hl] at hc
    obtain ⟨y, hy, e⟩ := List.mem_filterMap.mp hc
    exact ⟨y, hy, e⟩
  have cell : ∀ y ∈ caps, ∃ c v u o, X.env.cells.lookup y = some c ∧ σ[idx y]? = some (some v) ∧ RelV v u ∧ o.data = .cell (some u) ∧ s1.heap.get? c = some o := fun y hy => by
    obtain ⟨v, hv⟩ := hset y hy
    obtain ⟨hsc, hN⟩ := hcap y hy
    obtain ⟨m, _, hlk⟩ := I1.loc
    obtain ⟨u, ru, ⟨kl, _⟩ | ⟨_, c, e, o, ho, hd⟩⟩ := hlk _ y v hN hv (.inr (.inl hsc))
    · have kl : X.env.scope.names.lookup y = some .local := kl
      rw [hsc] at kl
      cases kl
    · exact ⟨c, v, u, o, e, hv, ru, hd, ho⟩
  have celll : ∀ c ∈ l, ∃ u o, o.data = .cell (some u) ∧ s1.heap.get? c = some o := fun c hc => by
    obtain ⟨y, hy, e⟩ := ofl c hc
    obtain ⟨c2, v, u, o, e2, _, _, hd, ho⟩ := cell y hy
    rw [e] at e2
    cases e2
    exact ⟨u, o, hd, ho⟩
  let ff : Hp := fun a => (s1.heap.get? a).map (FixO a)
  have fe : ∀ {c : Addr} {o : Obj}, s1.heap.get? c = some o → ff c = some (FixO c o) := fun {c o} e => by
    show (s1.heap.get? c).map (FixO c) = _
    rw [e]; rfl
  have fx : Fixed l ff := fun c hc => let ⟨_, o, _, ho⟩ := celll c hc; ⟨o, fe ho⟩
  have hn : ∀ c ∈ l, H1 c = none := fun c hc => let ⟨y, _, e⟩ := ofl c hc; I1.freeC y c e
  have hgt : ∀ c ∈ l, ∀ o, ff c = some (FixO c o) → s1.heap.get? c = some o := fun c hc o e => by
    obtain ⟨u, o2, hd, ho⟩ := celll c hc
    have e2 := fe ho
    rw [e] at e2
    have e3 : (fun h : Heap => h.get? c = some o) = fun h : Heap => h.get? c = some o2 := HO.ext.inj (Option.some.inj e2)
    have e4 := congrFun e3 s1.heap
    rw [e4]
    exact ho
  have hcod : ∀ c ∈ l, ff c ≠ some (CodO c qLam) := fun c hc e => by
    obtain ⟨u, o2, hd, ho⟩ := celll c hc
    rw [fe ho] at e
    have e3 : (fun h : Heap => h.get? c = some o2) = fun h : Heap => ∃ (oc : Obj) (vs : Array Value) (t : Tok), h.get? c = some oc ∧ oc.data = .fields vs ∧ vs[1]? = some (.str qLam t) := HO.ext.inj (Option.some.inj e)
    have e4 : (s1.heap.get? c = some o2) = (∃ (oc : Obj) (vs : Array Value) (t : Tok), s1.heap.get? c = some oc ∧ oc.data = .fields vs ∧ vs[1]? = some (.str qLam t)) := congrFun e3 s1.heap
    rw [e4] at ho
    obtain ⟨oc, vs, t, b1, b2, _⟩ := id ho
    rw [← e4] at ho
    rw [ho] at b1
    cases b1
    rw [hd] at b2
    cases b2
  have big : ∀ c ∈ l, X.s_0.heap.objs.size ≤ c := fun c hc => let ⟨y, hy, e⟩ := ofl c hc; I1.ok.cab y c (hfn y hy) e
  have nfr : ∀ c ∈ l, c ∉ frs X.stack := fun c hc z => by
    obtain ⟨y, _, e⟩ := ofl c hc
    rcases List.mem_cons.mp (I1.stkSub _ z) with z | z
    · exact I1.cne y c e z
    · obtain ⟨_, o, ho, _⟩ := I1.ok.funs.mem z
      exact absurd (Nat.lt_of_lt_of_le (Heap.lt_size ho) (big c hc)) (Nat.lt_irrefl _)
  have e0 := I1.env0
  have e1 : Env0 X.prog X.w X.K X.mg X.base X.A X.stack s1 (lay l ff H1) := ⟨e0.frames, e0.mod, fun b o e => by
      have hb : b ∉ l := fun z => absurd (Nat.lt_of_lt_of_le (Heap.lt_size e) (Nat.le_trans I1.ok.bsz (big b z))) (Nat.lt_irrefl _)
      rw [lay_out hb]
      exact e0.bs b o e, e0.bsz, e0.funs, fun b hb => by
      rw [lay_out (fun z => nfr b z hb)]
      exact e0.frf b hb, hok_lay fx hn hgt e0.hok, e0.bare⟩
  have hsp := q ff fx (fun c hc => ⟨hn c hc, hcod c hc⟩) fun y hy => let ⟨c, v, u, o, a, b, d, g, hh⟩ := cell y hy; ⟨c, v, u, o, a, b, d, g, fe hh⟩
  have hlen : us.length = ps.length := by rw [← r.length]; exact F.len _ _ _ _ hsp
  have bt := hb s1 us I1.kIn (by rw [List.append_nil]; exact hlen)
  rw [List.append_nil] at bt
  refine wpAny_call (codeAny_mono (F.run X.A X.stack s1 _ ⟨us, []⟩ us vs _ _ hgd hr e1 bt r hsp) fun res s' hq => ?_)
  match res, hq with
  | .error er, hq =>
    obtain ⟨_, _, _, _, _, _, _, _, _, _, _, _, z⟩ := hq
    exact z.elim
  | .ok (.ret u), hq =>
    obtain ⟨v, H2, os, bare, un, hok, rv, hkeep, q2⟩ := hq
    obtain ⟨un2, hok2⟩ := un_cut hn fx hgt un hok hkeep
    exact I1.after ⟨v, cut l H2, os, bare, un2, hok2, rv, q2⟩
end
/-- by data -/
def tellW (w : List D → Wm D) (cells : List (Str × Addr)) (caps : List Str) (idx : Str → Nat) (ds : List D) : TD D := fun ρ Kd _ n => ∃ cap : Str → D, (∀ y ∈ caps, ρ[idx y]? = some (some (.d (cap y))) ∧ plainD (cap y) = true) ∧
  tellOkL (fun r => ∀ p ∈ r.cl, p.1 ∈ caps ∧ cells.lookup p.1 = some p.2) ds ∧ w (tellL cap ds) (fun d n' => plainD d = true ∧ Kd d n') XFalse n
mutual
theorem tellOk.imp {p q : CloR → Prop} (h : ∀ r, p r → q r) : ∀ {d : D}, tellOk p d → tellOk q d
  | .clo _ r _, e => by unfold tellOk at e ⊢; exact h r e
  | .tup ds, e => by unfold tellOk at e ⊢; exact tellOkL.imp h e
  | .lst ds, e => by unfold tellOk at e ⊢; exact tellOkL.imp h e
  | .non, e => by unfold tellOk; trivial
  | .bl _, e => by unfold tellOk; trivial
  | .int _, e => by unfold tellOk; trivial
  | .str _, e => by unfold tellOk; trivial
  | .dic _ _, e => by unfold tellOk at e ⊢; exact e
  | .obj _ _ _, e => by unfold tellOk at e ⊢; exact e
  | .exc _ _ _, e => by unfold tellOk at e; exact e.elim
  | .pen, e => by unfold tellOk at e; exact e.elim
  | .fnA _, _ => by unfold tellOk; trivial
  | .scr _ _ _, e => by unfold tellOk at e; exact e.elim
theorem tellOkL.imp {p q : CloR → Prop} (h : ∀ r, p r → q r) : ∀ {ds : List D}, tellOkL p ds → tellOkL q ds
  | [], _ => by unfold tellOkL; trivial
  | d :: ds, e => by unfold tellOkL at e ⊢; exact ⟨tellOk.imp h e.1, tellOkL.imp h e.2⟩
end
section
variable {ι : Type} {X : ι → Cx} {W : WX}
theorem DE.tell {x : Str} {p pos : Pos} {e : Expr} {es : List Expr} {t : TD (List D)} {k f fd} {ps : List Str} {w : List D → Wm D} {m : Nat} {cells : List (Str × Addr)} {caps : List Str} {idx : Str → Nat} (hcl : ∀ i, (X i).env.cells = cells) (F : ∀ i, FnG (X i).prog (X i).w (X i).K (X i).mg (X i).base k f fd ps (spD m w)) (hgd : ∀ i, (X i).A.guards = some []) (hr : ∀ i, Room k (X i).A)
    (hg : ∀ i, Gl (X i) x) (hm : ∀ i, (X i).mg x = some (.ref f)) (hk : ∀ i, PySem.W.keepIn (X i).K (.ref f) = true) (hb : ∀ i, Binds (X i).K fd ps []) (hfn : ∀ i, ∀ y ∈ caps, (X i).fn y = true) (hcap : ∀ i, ∀ y ∈ caps, (X i).env.scope.names.lookup y = some .cell ∧ (X i).N[idx y]? = some y)
    (h : DA X W (e :: es) t) (hdb : (x == ("__debug__" : Str)) = false := by decide)
    (he : ∀ i, starEach (e :: es) (X i).env = (false, eval e (X i).env) :: starEach es (X i).env := by intro _; rfl) (hpl : ∀ i, (backTo pos (starEach es (X i).env)).any (·.1) = false := by intro _; rfl) :
    DE X W (.Call (.Name x p) (e :: es) [] pos) (fun ρ => do let ds ← t ρ; Wm.need (ds.length = m); tellW w cells caps idx ds ρ) := by
  obtain ⟨ta, p1, r1⟩ := h
  refine ⟨tTell (spD m w) cells caps idx ta, fun i => by rw [← hcl i]; exact pe_tell (F i) (hgd i) (hr i) (hg i) (hm i) (hk i) (hb i) (hfn i) (hcap i) (p1 i) hdb (he i) (hpl i), fun F H n σ ρ K Kx Q hs ht hq hx => ?_⟩
  refine r1 F H n σ ρ _ Kx _ hs ht (fun vs ds F1 H1 n1 g1 hv ht1 => ?_) hx
  obtain ⟨hlen, cap, hcap', hok, hw⟩ := ht1
  have hs1 := hs.mono g1
  refine ⟨fun y hy => let ⟨v, e, _⟩ := hs1.at_ _ _ (hcap' y hy).1; ⟨v, e⟩, fun f fx hn hcell => ?_⟩
  obtain ⟨l, hl⟩ : ∃ l, l = caps.filterMap (fun y => cells.lookup y) := ⟨_, rfl⟩
  rw [← hl] at fx hn ⊢
  have hn1 : ∀ c ∈ l, H1 c = none := fun c hc => (hn c hc).1
  have told : tellOkL (fun r => ∀ p ∈ r.cl, Told l F1 H1 f cap p) ds := tellOkL.imp (fun r hr p hp => by
    obtain ⟨h1, h2⟩ := hr p hp
    obtain ⟨c, v, u, o, e1, e2, ru, dd, e3⟩ := hcell _ h1
    rw [h2] at e1
    cases e1
    obtain ⟨v', e4, hv'⟩ := hs1.at_ _ _ (hcap' _ h1).1
    rw [e2] at e4
    cases e4
    exact ⟨by rw [hl]; exact List.mem_filterMap.mpr ⟨_, h1, h2⟩, v, u, o, ru, dd, e3, Has.lay hn1 hv' (hcap' _ h1).2⟩) hok
  refine ⟨by rw [hv.len]; exact hlen, layF l F1, n1, tellL cap ds, _, XFalse, g1.pb.lay fx hn1, hv.tell hn1 told, hw, fun v d F' H' n' g hv' hk' => ?_, fun _ _ _ _ _ _ _ _ z => z⟩
  obtain ⟨g2, hkeep⟩ := g.cut g1.pb hn1 fx fun c hc => (hn c hc).2
  have fx' : Fixed l H' := fun c hc => by rw [hkeep c hc]; exact fx c hc
  exact ⟨hkeep, hq v d _ _ n' (g1.trans g2) (hv'.cut fx' hk'.1) hk'.2⟩
end
end DL


set_option maxRecDepth 100000
set_option maxHeartbeats 2000000
/-! DL10: the end of a law. Own work over HandS. -/
namespace DL
open PySem PySem.Spec PyProof.Rows L2

/-- what the law's run may lean on of the heap at its call: the tables stand empty, the built-ins' module, .. -/
structure LawHeap (K : PySem.W.Frag) (mg mb : Str → Option Value) (cs : List (Addr × Addr)) (s : Shared) : Prop where
  kin : K.In s.heap
  glob : s.heap.Ns mainGlobals mg
  blt : s.heap.Ns builtinsNs mb
  bltv : ∀ x : Str, x ≠ "__name__" → mb x = bootBuiltins x
  lim : s.heap.NoLimit
  gens : s.gens = #[]
  tab : ∀ p ∈ cs, s.heap.get? p.2 = some { cls := .none, data := .fields #[] }
  tabK : ∀ p ∈ cs, K.lookup p.2 = none
  code : ∀ p ∈ cs, PySem.W.CodeHd s.heap p.1 p.2
  bm : ∃ (bm : Addr) (ob : Obj), mg "__builtins__" = some (.ref bm) ∧ bm ≠ builtinsNs ∧ s.heap.get? bm = some ob ∧ ob.cls = .type "module" ∧ ob.dict = some builtinsNs ∧ ob.data = .plain
open Classical in
/-- what is tracked: the script (if it is no written thing), the tables -/
noncomputable def lawH (K : PySem.W.Frag) (cs : List (Addr × Addr)) (a : Addr) (o : Obj) (vs : List V) : Hp := fun b =>
  if b = a then (if K.lookup a = none then some (.frz o (.lst vs)) else none) else if b ∈ cs.map (·.2) then some (.tbl #[]) else none
theorem law_callG {P : Program} {w : World} {K : PySem.W.Frag} {mg mb : Str → Option Value} {k : Nat} {fa a : Addr} {cs : List (Addr × Addr)} {fd : FuncData} {x : Str} {lw : List D → Wm D} {s₁ : Shared} {vs : List Value} {ns : List Int} (L : LawHeap K mg mb cs s₁)
    (ha : s₁.heap.get? a = some { cls := .type "list", data := .seq vs.toArray }) (hi : IntsAre vs ns) (hl : ns.length ≤ sizeLine) (hr : Room k callerA)
    (F : ∀ base : Heap, K.In base → base.Ns mainGlobals mg → (∀ p ∈ cs, LamX.TabB base mg p.1 p.2) → FnG P w K mg base k fa fd [x] (spD 1 lw)) (hbind : ∀ (s : Shared) (u : Value), BindsTo s fd ⟨[u], []⟩ [(x, u)])
    (hw : lw [.scr K ns (cs.map (·.2))] (fun d _ => d = .bl true) XFalse 0) :
    codeAny (model P w) callerA (.call (.ref fa) ⟨[.ref a], []⟩) (fun r s' => r = .ok (.ret (.bool true)) ∧ OldK s₁.heap s'.heap ∧ s'.os = s₁.os ∧ AllBare s'.gens) s₁ := by
  have rv := vals_ints hi
  have lenV := hi.length
  obtain ⟨o, ho⟩ : ∃ o : Obj, o = { cls := .type "list", data := .seq vs.toArray } := ⟨_, rfl⟩
  obtain ⟨H, hH⟩ : ∃ H : Hp, H = lawH K cs a o (ns.map V.int) := ⟨_, rfl⟩
  have isT : ∀ b, b ∈ cs.map (·.2) → s₁.heap.get? b = some { cls := .none, data := .fields #[] } ∧ K.lookup b = none := fun b hb => by
    obtain ⟨p, hp, rfl⟩ := List.mem_map.mp hb
    exact ⟨L.tab p hp, L.tabK p hp⟩
  have aT : a ∉ cs.map (·.2) := fun z => by
    have q := (isT a z).1
    rw [ha] at q
    have z' : Data.seq vs.toArray _ = Data.fields #[] := congrArg Obj.data (Option.some.inj q)
    cases z'
  have atT : ∀ b, b ∈ cs.map (·.2) → H b = some (.tbl #[]) := fun b hb => by
    have hba : b ≠ a := fun z => aT (z ▸ hb)
    rw [hH]
    show (if b = a then _ else _) = _
    rw [if_neg hba, if_pos hb]
  have atA : H a = if K.lookup a = none then some (.frz o (.lst (ns.map V.int))) else none := by
    rw [hH]
    exact if_pos rfl
  have atN : ∀ b, b ≠ a → b ∉ cs.map (·.2) → H b = none := fun b h1 h2 => by
    rw [hH]
    show (if b = a then _ else _) = _
    rw [if_neg h1, if_neg h2]
  have inv : ∀ b u, H b = some u → (b = a ∧ K.lookup a = none ∧ u = .frz o (.lst (ns.map V.int))) ∨ (b ∈ cs.map (·.2) ∧ u = .tbl #[]) := fun b u e => by
    by_cases h1 : b = a
    · subst h1
      rw [atA] at e
      by_cases hk : K.lookup b = none
      · rw [if_pos hk] at e
        exact .inl ⟨rfl, hk, (Option.some.inj e).symm⟩
      · rw [if_neg hk] at e
        cases e
    · by_cases h2 : b ∈ cs.map (·.2)
      · rw [atT b h2] at e
        exact .inr ⟨h2, (Option.some.inj e).symm⟩
      · rw [atN b h1 h2] at e
        cases e
  -- tracked things are lists or tables
  have free_ : ∀ {b : Addr} {ob : Obj}, s₁.heap.get? b = some ob → (∀ xs n, ob.data ≠ .seq xs n) → ob.data ≠ .fields #[] → H b = none := fun {b ob} e h1 h2 => by
    cases q : H b with
    | none => rfl
    | some u =>
      rcases inv b u q with ⟨rfl, _⟩ | ⟨hb, _⟩
      · rw [ha] at e
        cases e
        exact (h1 _ _ rfl).elim
      · rw [(isT b hb).1] at e
        cases e
        exact (h2 rfl).elim
  have freeD : ∀ {b : Addr} {ob : Obj} {es : Array DictEntry} {ep : Nat}, s₁.heap.get? b = some ob → ob.data = .dict es ep → H b = none := fun {b ob es ep} e d => free_ e (fun xs n z => by rw [d] at z; cases z) fun z => by rw [d] at z; cases z
  have nsK : ∀ {b : Addr} {m : Str → Option Value}, s₁.heap.Ns b m → (hidT s₁.heap H).Ns b m := fun {b m} ⟨ob, es, ep, e, d, r⟩ => ⟨ob, es, ep, hidT_get e (freeD e d), d, r⟩
  have hKb : K.In (hidT s₁.heap H) := fun b ob e => hidT_get (L.kin b ob e) (by
    cases q : H b with
    | none => rfl
    | some u =>
      rcases inv b u q with ⟨rfl, hk, _⟩ | ⟨hb, _⟩
      · rw [hk] at e; cases e
      · rw [(isT b hb).2] at e; cases e)
  have hok : HOk P w H s₁.heap := fun b u e => by
    rcases inv b u e with ⟨rfl, _, rfl⟩ | ⟨hb, rfl⟩
    · exact ⟨by rw [ho]; exact ha, by rw [List.length_map]; exact hl, vs, _, rv, ha⟩
    · exact (isT b hb).1
  have hM : L2.Mod K mg (hidT s₁.heap H) := ⟨hKb, nsK L.glob, ⟨mb, nsK L.blt, L.bltv⟩, let ⟨mc, h1, h2⟩ := L.lim; ⟨mc, nsK h1, h2⟩⟩
  have TB : ∀ p ∈ cs, LamX.TabB (hidT s₁.heap H) mg p.1 p.2 := fun p hp => by
    have hTp := L.tab p hp
    refine ⟨?_, ?_, fun z => ?_⟩
    · obtain ⟨ob, us, file, tf, flags, tg, inF, text, tt, e1, r1, r2, r3, r4, r5, r6, r7, r8, hne⟩ := L.code p hp
      refine ⟨ob, us, file, tf, flags, tg, inF, text, tt, hidT_get e1 (free_ e1 (fun xs n z => ?_) fun z => ?_), r1, r2, r3, r4, r5, r6, r7, r8, hne⟩
      · rw [r2] at z; cases z
      · rw [r2] at z
        cases z
        simp at r3
    · obtain ⟨bm, ob, b1, b2, b3, b4, b5, b6⟩ := L.bm
      refine ⟨bm, ob, b1, b2, fun q => ?_, fun q => ?_, hidT_get b3 (free_ b3 (fun xs n z => ?_) fun z => ?_), b4, b5, b6⟩
      · obtain ⟨og, es, ep, e, hd, _⟩ := L.glob
        rw [q, e] at b3
        cases b3
        rw [hd] at b6
        cases b6
      · rw [q, hTp] at b3
        cases b3
        cases b6
      · rw [b6] at z; cases z
      · rw [b6] at z; cases z
    · obtain ⟨og, es, ep, e, hd, _⟩ := L.glob
      rw [z, hTp] at e
      cases e
      cases hd
  have e0 : Env0 P w K mg (hidT s₁.heap H) callerA [] s₁ H := ⟨rfl, hM, fun b ob e => of_hidT e, Nat.le_of_eq (hidT_size _ _), trivial, fun b hb => absurd (show b ∈ ([] : List Addr) from hb) (by simp), hok, .of_eq L.gens⟩
  have pb : PenB (fun b => ∃ u, H b = some u) H 0 := ⟨fun b c p e => (by rcases inv b _ e with ⟨_, _, z⟩ | ⟨_, z⟩ <;> cases z), fun b h => h, fun Q ps e => by
    rcases inv Q _ e with ⟨_, _, z⟩ | ⟨_, z⟩
    · cases z
    · cases z
      exact ⟨True.intro, fun pos cv z => by
        have z : codeAmong pos [] = some cv := z
        simp [codeAmong] at z⟩⟩
  have hscr : Has (fun b => ∃ u, H b = some u) H (.ref a) (.scr K ns (cs.map (·.2))) := .scr (by
    cases hk : K.lookup a with
    | none => exact .inl ⟨o, ⟨_, by rw [atA, if_pos hk]⟩, by rw [atA, if_pos hk]⟩
    | some oo =>
      have e := L.kin a oo hk
      rw [ha] at e
      cases e
      exact .inr fun H' => .inr ⟨_, vs.toArray, _, hk, rfl, rfl, rfl, by rw [List.size_toArray, lenV]; exact hl, by simpa using rv⟩) fun T hT => ⟨⟨_, atT T hT⟩, _, atT T hT⟩
  refine codeAny_mono ((F _ hKb (nsK L.glob) TB).run callerA [] s₁ H ⟨[.ref a], []⟩ [.ref a] [.ref a] (fun v _ => v = .bl true) (fun _ _ _ => False) rfl hr e0 (hbind s₁ (.ref a)) (.cons rfl .nil)
    ⟨rfl, _, 0, _, _, _, pb, .cons hscr .nil, hw, fun v d F' H' n' g hv hd => by subst hd; cases hv; rfl, fun _ _ _ _ _ _ _ _ z => z⟩) fun r s' h => ?_
  cases r with
  | error e =>
    obtain ⟨_, _, _, _, _, _, _, _, _, _, _, _, z⟩ := h
    exact z.elim
  | ok fl =>
    cases fl with
    | next => exact False.elim h
    | brk => exact False.elim h
    | cont => exact False.elim h
    | ret u =>
      obtain ⟨v, H', os, bare, un, hok', r', q⟩ := h
      have q' : v = .bl true := q
      subst q'
      obtain rfl : u = Value.bool true := r'
      have grown : ∀ p ∈ cs, ∃ more : Array Value, s'.heap.get? p.2 = some { cls := .none, data := .fields more } := fun p hp => by
        obtain ⟨more, z⟩ := un.tbls p.2 #[] (atT p.2 (List.mem_map.mpr ⟨p, hp, rfl⟩))
        exact ⟨_, hok' p.2 _ z⟩
      have key : ∀ b ob, b ∉ cs.map (·.2) → s₁.heap.get? b = some ob → s'.heap.get? b = some ob := fun b ob nb e => by
        cases q : H b with
        | none => exact un.keep b ob e q (by intro z; exact absurd (show b ∈ ([] : List Addr) from z) (by simp)) (by simp)
        | some u =>
          rcases inv b u q with ⟨rfl, _, rfl⟩ | ⟨hb, _⟩
          · have z2 := un.frzs b o _ q
            obtain ⟨e1, _⟩ := hok b _ q
            obtain ⟨e2, _⟩ := hok' b _ z2
            rw [e] at e1
            cases e1
            exact e2
          · exact absurd hb nb
      refine ⟨rfl, ⟨fun b ob e => ?_, fun b ob e => ?_⟩, os, bare⟩
      · by_cases hb : b ∈ cs.map (·.2)
        · obtain ⟨p, hp, rfl⟩ := List.mem_map.mp hb
          obtain ⟨more, hm⟩ := grown p hp
          rw [L.tab p hp] at e
          cases e
          exact .inr (.inl ⟨((L.code p hp).tab (L.tab p hp)).isCodeTable, rfl, #[], more, rfl, by rw [Array.empty_append]; exact hm⟩)
        · exact .inl (key b ob hb e)
      · by_cases hb : b ∈ cs.map (·.2)
        · obtain ⟨p, hp, rfl⟩ := List.mem_map.mp hb
          obtain ⟨more, hm⟩ := grown p hp
          exact ⟨_, hm⟩
        · exact ⟨ob, key b ob hb e⟩

/-- what is known of the law's promise at the head's heap h -/
def LawAtG (l : PySem.W.OpenLaw) (w : World) (K : PySem.W.Frag) (k n : Nat) (x : Str) (mg : Str → Option Value) (fa : Addr) (h : Heap) : Prop :=
  ∃ (fd : FuncData) (cs : List (Addr × Addr)) (lw : List D → Wm D), (∀ p ∈ cs, h.get? p.2 = some { cls := .none, data := .fields #[] }) ∧ (∀ p ∈ cs, K.lookup p.2 = none) ∧ (∀ p ∈ cs, PySem.W.CodeHd h p.1 p.2) ∧ (∀ (s : Shared) (u : Value), BindsTo s fd ⟨[u], []⟩ [(x, u)]) ∧
    (∀ ns : List Int, ns.length ≤ n → (∀ z ∈ ns, Builtin.Int.intBits z ≤ 1048576) → lw [.scr K ns (cs.map (·.2))] (fun d _ => d = .bl true) XFalse 0) ∧
    ∀ base : Heap, K.In base → base.Ns mainGlobals mg → (∀ p ∈ cs, LamX.TabB base mg p.1 p.2) → FnG l.prog w K mg base k fa fd [x] (spD 1 lw)
theorem walk_ofG {l : PySem.W.OpenLaw} {n k : Nat} {q : Program} {loose : List Str} {XP : (Str → Option Value) → Heap → Prop} {YP : World → Heap → Prop} {d : DefRec} {K : Params → PySem.W.Frag} {x : Str}
    (hn : l.most = some n) (hn2 : n ≤ sizeLine) (hdf : d.params.defaults = []) (hr : Room k callerA) (hY : ∀ (w : World) (h : Heap), YP w h → (K w.params).In h)
    (F : ∀ (w : World) (mg : Str → Option Value) (fa : Addr) (h : Heap), YP w h → (K w.params).In h → h.Ns mainGlobals mg → mg d.name = some (.ref fa) → LawAtG l w (K w.params) k n x mg fa h) :
    PySem.W.WalkO q loose XP YP l.row.toRowW d [] (fun f vs => PySem.call f vs) := by
  refine Att.attach_callB hn hdf fun w s₀ s₁ mg mb fa o pm cd doc a vs ns G Y ho hd hcd hmg hobj hints hlen hbits hg => ?_
  have KX := hY w _ Y
  obtain ⟨fd, cs, lw, hT, nT, C, hb, hsp, hF⟩ := F w mg fa _ Y KX G.T.g hmg
  exact law_callG ⟨KX, G.T.g, G.T.b, G.T.builtins, G.T.nolimit, hg, hT, nT, C, G.T.bmain⟩ hobj hints (Nat.le_trans hlen hn2) hr hF hb (hsp ns hlen hbits)
end DL


set_option maxRecDepth 100000
set_option maxHeartbeats 2000000
/-! DL11: further words. Own work over HandS. -/
namespace DL
open PySem PySem.Spec PyProof.Rows L2

section
variable {ι : Type} {X : ι → Cx} {W : WX}
/-! ### isinstance with a tuple of classes -/
theorem DE.isiT {a : Expr} {Ts : List Expr} {cs : List V} {us : List Value} {t : TD D} {tT : TA} {p pos tp : Pos} {x1 : Nat} {K : PySem.W.Frag} (hK : ∀ i, (X i).K = K) (hT : ∀ i, PA (X i) Ts tT) (hTr : ∀ σ H Q, Q cs H → tT σ H Q) (hc : Paired ClsV cs us) (hl : cs.length ≤ 100) (hg : ∀ i, Gl (X i) "isinstance") (hm : ∀ i, (X i).mg "isinstance" = none) (h : DE X W a t)
    (h1 : ∀ i, starEach [a, .Tuple Ts x1 tp] (X i).env = (false, eval a (X i).env) :: starEach [.Tuple Ts x1 tp] (X i).env := by intro _; rfl) (h2 : ∀ i, starEach [.Tuple Ts x1 tp] (X i).env = (false, eval (.Tuple Ts x1 tp) (X i).env) :: starEach [] (X i).env := by intro _; rfl)
    (hpl : ∀ i, (backTo pos (starEach [.Tuple Ts x1 tp] (X i).env)).any (·.1) = false := by intro _; rfl) : DE X W (.Call (.Name "isinstance" p) [a, .Tuple Ts x1 tp] [] pos) (fun ρ => do fIsi K us (← t ρ)) := by
  obtain ⟨te, pe, r⟩ := h
  refine ⟨tCB (rIsiT K) (tCons te (tCons (tTup tT) tNil)), fun i => by rw [← hK i]; exact pe_callB call_isiT (hg i) (hm i) (by decide +kernel) (pa_cons (pe i) (pa_cons (pe_tup (hT i)) pa_nil (h2 i)) (h1 i)) (by decide) (by decide) (h1 i) (hpl i), fun F H n σ ρ Kd Kx Q hs ht hq hx => ?_⟩
  refine r F H n σ ρ _ Kx _ hs ht (fun v d F1 H1 n1 g1 hv ht1 => ?_) hx
  obtain ⟨ok, hk⟩ := ht1
  refine hTr σ H1 _ ⟨by rw [sizeLine_eq]; omega, fun q hq0 => ?_⟩
  cases e : PySem.W.kitAny K (tyD d) us with
  | none => rw [e] at hk; exact hk.elim
  | some b =>
    rw [e] at hk
    have g : Grow F1 H1 n1 F1 (upd H1 q (.tup cs)) n1 := ⟨(Grow.laid g1.pb hq0 .tup).keep, fun _ f => f, fun _ f => .inl f, g1.pb.put (g1.pb.out hq0) .tup, Nat.le_refl _⟩
    exact ⟨v, q, cs, tyD d, us, b, rfl, upd_same, hc, (hv.mono g).tyX ok, e, hq _ _ F1 _ n1 (g1.trans g) (.bl b) hk⟩
/-! ### x.bit_length() -/
def fBits : D → Wm D
  | .int i => pure (.int (Builtin.Int.intBits i : Nat))
  | _ => Wm.fail
theorem DE.bits {o : Expr} {t : TD D} {apos pos : Pos} (h : DE X W o t) (hbase : ∀ i, attributeBase o "bit_length" (X i).env (eval o (X i).env) = eval o (X i).env := by intro _; rfl) (hline : (apos.endLine == pos.line) = true := by rfl) :
    DE X W (.Call (.Attribute o "bit_length" apos) [] [] pos) (fun ρ => do fBits (← t ρ)) := by
  obtain ⟨te, p, r⟩ := h
  refine ⟨_, fun i => pe_bits (p i) (hbase i) hline, fun F H n σ ρ Kd Kx Q hs ht hq hx => ?_⟩
  refine r F H n σ ρ _ Kx _ hs ht (fun v d F1 H1 n1 g1 hv ht1 => ?_) hx
  cases hv <;> try exact ht1.elim
  exact ⟨_, rfl, hq _ _ F1 H1 n1 g1 (.int _) ht1⟩
/-! ### {} -/
theorem DE.dnew {pos : Pos} : DE X W (.Dict [] [] pos) (fun _ => pure (.dic [] [])) := ⟨_, fun _ => pe_dnewK, fun F H n σ ρ Kd Kx Q hs ht hq hx p hp => by
  have g : Grow F H n (plusF F p) (upd H p (.dK [])) n := .laid hs.pb hp (.dK rfl)
  exact hq _ (.dic [] []) _ _ n g (.dic plusF_same upd_same rfl rfl .nil) ht⟩
/-! ### a, b = x, y; plain locals -/
def dPar (i j : Nat) (t : TD (List D)) : TDS := fun E ρ n => t ρ (fun ds n' => match ds with
  | [d, e] => E.nx ((ρ.set i (some (.d d))).set j (some (.d e))) n'
  | _ => False) (fun x n' => E.ex x ρ n') n
theorem DS.par {i j : Nat} {x y : Str} {a b : Expr} {ta : TD (List D)} {px py pt pos : Pos} {kt k2 pt2} (hc : ∀ k, (X k).calm = true) (hN : ∀ k, (X k).N.Nodup) (hi : ∀ k, (X k).N[i]? = some x) (hj : ∀ k, (X k).N[j]? = some y) (hij : i ≠ j)
    (hx : ∀ k, (X k).env.scope.names.lookup x = some .local) (hy : ∀ k, (X k).env.scope.names.lookup y = some .local) (ha : DA X W [a, b] ta)
    (hw : ∀ k, swappedStores [.Tuple [.Name x px, .Name y py] kt pt] (.Tuple [a, b] k2 pt2) (X k).env = pure (some [x, y]))
    (hs : ∀ k, swapsWithSole [.Tuple [.Name x px, .Name y py] kt pt] (.Tuple [a, b] k2 pt2) pos.line (X k).env = pure false := by intro _; rfl) :
    DS X W (.Assign [.Tuple [.Name x px, .Name y py] kt pt] (.Tuple [a, b] k2 pt2) pos) (dPar i j ta) := by
  obtain ⟨tA, p, r⟩ := ha
  refine ⟨_, fun k => ps_par (hc k) (hN k) (hi k) (hj k) hij (hx k) (hy k) (p k) (hw k) (hs k), fun B F H n σ ρ E Z s h eo => ?_⟩
  refine r F H n σ ρ _ _ _ s.hs h (fun vs ds F' H' n' g hv hk => ?_) fun cls od x F' H' n' g hx he => eo.ex cls od x σ ρ F' H' n' (s.mono g) g.later hx he
  match ds, hk with
  | [d, e], hk =>
    cases hv with
    | cons h1 hv =>
    cases hv with
    | cons h2 hv =>
    cases hv
    exact ⟨_, _, rfl, eo.nx _ _ F' H' n' (((s.mono g).set h1).set h2) g.later hk⟩
end
/-- a conjunction's rows as they come: x and (y and z) of values -/
theorem pyD_int {i : Int} : pyD (.int i) = .int i := by unfold pyD; rfl
end DL


set_option maxRecDepth 100000
set_option maxHeartbeats 2000000
/-! DL12: defs by name; the monad's rows. Own work. -/
namespace DL
open PySem PySem.Spec PyProof.Rows L2
/-- a def of one's own, by its name -/
structure DefG (P : Program) (w : World) (K : PySem.W.Frag) (mg : Str → Option Value) (base : Heap) (x : Str) (ps : List Str) (k : Nat) (wf : List D → Wm D) : Prop where
  ex : ∃ f fd, FnG P w K mg base k f fd ps (spD ps.length wf) ∧ mg x = some (.ref f) ∧ PySem.W.keepIn K (.ref f) = true ∧ Binds K fd ps []
/-- by its text -/
structure DefF (K : PySem.W.Frag) (mg : Str → Option Value) (x : Str) (st : Stmt) (ps : List Str) : Prop where
  ex : ∃ f fd, Fun K x x st f fd ∧ mg x = some (.ref f) ∧ Binds K fd ps []
section
variable {P : Program} {w : World} {K : PySem.W.Frag} {mg : Str → Option Value} {base : Heap}
theorem def_ok {x : Str} {st : Stmt} {N ps : List Str} {k : Nat} {t : TDS} {w' : List D → Wm D} (F : DefF K mg x st ps) (S : FnScope N ps (defScope st))
    (hbody : ∀ (f : Addr) (cdv : Value) (A : Around) (outer : List Env) (s : Shared) (H : Hp) (E : XK), A.guards = some [] → Room k (A.deeper (envOfC x (defScope st) s.heap.objs.size f cdv)) → DSs (bCx P w K mg base N x st f cdv A outer s H E) (bW E) (defBody st) t)
    (hw : ∀ ds Kd Kx n, ds.length = ps.length → w' ds Kd Kx n → bodyW t N.length ds Kd Kx n) : DefG P w K mg base x ps (k + 1) w' := by
  obtain ⟨f, fd, F, m, b⟩ := F.ex
  exact ⟨f, fd, fn_ok F S (hbody f) hw, m, F.kp, b⟩
theorem def_draw {x : Str} {st : Stmt} {N ps : List Str} {k : Nat} (F : DefF K mg x st ps) (S : FnScope N ps (defScope st)) (hN : N.length = 5) (hps : ps.length = 2)
    (hbody : ∀ (f : Addr) (cdv : Value) (A : Around) (outer : List Env) (s : Shared) (H : Hp) (E : XK), A.guards = some [] → Room k (A.deeper (envOfC x (defScope st) s.heap.objs.size f cdv)) → PSs (cxOf (L2.CX P w) P w K mg base N x (defScope st) f cdv A outer s H E) (defBody st) (tDraw K)) :
    DefG P w K mg base x ps (k + 1) drawW := by
  obtain ⟨f, fd, F, m, b⟩ := F.ex
  exact ⟨f, fd, by rw [hps]; exact draw_ok F S hN hps (hbody f), m, F.kp, b⟩
end
/-! ### more operators -/
def fInt0 (g : Int → Int → Int) : D → D → Wm D
  | .int i, .int j => pure (.int (g i j))
  | _, _ => Wm.fail
theorem sem_int0 {g : Int → Int → Int} : Sem2 (rI0 fun i j => .int (g i j)) (fInt0 g) := by
  intro F H n x y a b K Q pb hx hy ht hq
  cases hx <;> cases hy <;> first | exact ht.elim | skip
  exact ⟨_, _, rfl, rfl, hq _ _ F H n (.refl pb) (.int _) ht⟩
def nonB : D → Bool
  | .non => true
  | _ => false
theorem Has.nonB {F : Addr → Prop} {H : Hp} {v : V} {d : D} (h : Has F H v d) : decide (v = .non) = nonB d := by
  cases h <;> simp [DL.nonB]
def fIsN : D → D → Wm D
  | d, .non => pure (.bl (nonB d))
  | _, _ => Wm.fail
def fNotN : D → D → Wm D
  | d, .non => pure (.bl (!nonB d))
  | _, _ => Wm.fail
theorem sem_isN : Sem2 (fun x y H Q => y = .non ∧ Q (.bl (decide (x = .non))) H) fIsN := by
  intro F H n x y a b K Q pb hx hy ht hq
  cases hy <;> try exact ht.elim
  exact ⟨rfl, by rw [hx.nonB]; exact hq _ _ F H n (.refl pb) (.bl _) ht⟩
theorem sem_notN : Sem2 (fun x y H Q => y = .non ∧ Q (.bl (!decide (x = .non))) H) fNotN := by
  intro F H n x y a b K Q pb hx hy ht hq
  cases hy <;> try exact ht.elim
  exact ⟨rfl, by rw [hx.nonB]; exact hq _ _ F H n (.refl pb) (.bl _) ht⟩
/-! ### == , != -/
def sclE : D → D → Option Bool
  | .int i, .int j => some (decide (i = j))
  | .str i, .str j => some (decide (i = j))
  | .bl i, .bl j => some (decide (i = j))
  | .non, .non => some true
  | _, _ => none
def fEqA (d e : D) : Wm D := match sclE d e with
  | some b => pure (.bl b)
  | none => fEq d e
def fNeA (d e : D) : Wm D := match sclE d e with
  | some b => pure (.bl (!b))
  | none => fNe d e
def rEqA (K : PySem.W.Frag) : R2 := fun x y H Q => rEq x y H Q ∨ rEqD K x y H Q
def rNeA (K : PySem.W.Frag) : R2 := fun x y H Q => rNe x y H Q ∨ rNeD K x y H Q
theorem op_eqA {X : Cx} (hu : X.A.units + 64 < cLine) : OpR X (compareOp .Eq) (rEqA X.K) := op_eq.or (op_eqD hu)
theorem op_neA {X : Cx} (hu : X.A.units + 64 < cLine) : OpR X (compareOp .NotEq) (rNeA X.K) := op_ne.or (op_neD hu)
theorem scl_has {F : Addr → Prop} {H : Hp} {x y : V} {a b : D} {c : Bool} (hx : Has F H x a) (hy : Has F H y b) (e : sclE a b = some c) : scal x y = true ∧ decide (x = y) = c := by
  cases hx <;> cases hy <;> first | (cases e; done) | skip
  case non.non => cases e; exact ⟨rfl, by simp⟩
  case bl.bl i j => cases e; exact ⟨rfl, by simp⟩
  case int.int i j => cases e; exact ⟨rfl, by simp⟩
  case str.str i j => cases e; exact ⟨rfl, by simp⟩
theorem sem_eqA {K : PySem.W.Frag} : Sem2 (rEqA K) fEqA := by
  intro F H n x y a b Kd Q pb hx hy ht hq
  unfold fEqA at ht
  cases e : sclE a b with
  | some c =>
    rw [e] at ht
    obtain ⟨h1, h2⟩ := scl_has hx hy e
    exact .inl ⟨h1, by rw [h2]; exact hq _ _ F H n (.refl pb) (.bl _) ht⟩
  | none =>
    rw [e] at ht
    exact .inr (sem_eq F H n x y a b Kd Q pb hx hy ht hq)
theorem sem_neA {K : PySem.W.Frag} : Sem2 (rNeA K) fNeA := by
  intro F H n x y a b Kd Q pb hx hy ht hq
  unfold fNeA at ht
  cases e : sclE a b with
  | some c =>
    rw [e] at ht
    obtain ⟨h1, h2⟩ := scl_has hx hy e
    exact .inl ⟨h1, by rw [h2]; exact hq _ _ F H n (.refl pb) (.bl _) ht⟩
  | none =>
    rw [e] at ht
    exact .inr (sem_ne F H n x y a b Kd Q pb hx hy ht hq)
/-! ### the monad's rows -/
section
variable {α β : Type} {K : α → Nat → Prop} {Kb : β → Nat → Prop} {X : XD → Nat → Prop} {n : Nat}
theorem w_bind {m : Wm α} {f : α → Wm β} : (m >>= f) Kb X n = m (fun a n' => f a Kb X n') X n := rfl
theorem w_pure {a : α} : (pure a : Wm α) K X n = K a n := rfl
theorem w_need {p : Prop} {Ku : Unit → Nat → Prop} : Wm.need p Ku X n = (p ∧ Ku () n) := rfl
theorem w_fail : (Wm.fail : Wm α) K X n = False := rfl
theorem w_raise {x : XD} : (Wm.raise x : Wm α) K X n = X x n := rfl
theorem w_calm {m : Wm α} : calm m K X n = m K XFalse n := rfl
theorem w_ite {p : Prop} [Decidable p] {a b : Wm α} : (if p then a else b) K X n = if p then a K X n else b K X n := by split <;> rfl
end
theorem s_seq {t u : TDS} {E : DEnds} {ρ : Env'} {n : Nat} : dSeq t u E ρ n = t { E with nx := fun ρ' n' => u E ρ' n' } ρ n := rfl
theorem s_next {E : DEnds} {ρ : Env'} {n : Nat} : dNext E ρ n = E.nx ρ n := rfl
theorem s_onE {m : TD D} {k : D → Env' → Nat → Prop} {E : DEnds} {ρ : Env'} {n : Nat} : onE m k E ρ n = m ρ (fun d n' => k d ρ n') (fun x n' => E.ex x ρ n') n := rfl
theorem s_onT {m : TD Bool} {k : Bool → Env' → Nat → Prop} {E : DEnds} {ρ : Env'} {n : Nat} : onT m k E ρ n = m ρ (fun d n' => k d ρ n') (fun x n' => E.ex x ρ n') n := rfl
theorem s_asg {m : TD D} {k : Nat} {E : DEnds} {ρ : Env'} {n : Nat} : dAsg m (dName k) E ρ n = m ρ (fun d n' => E.nx (ρ.set k (some (.d d))) n') (fun x n' => E.ex x ρ n') n := rfl
theorem g_0 {x : D} {r : Env'} : getD 0 (some (.d x) :: r) = pure x := rfl
theorem g_s {x : Option SV} {i : Nat} {r : Env'} : getD (i + 1) (x :: r) = getD i r := rfl
theorem forD_inv {g : TDG} {tb : TDS} {E : DEnds} (I : Nat → Env' → Nat → Prop) : ∀ (ds : List D) (ρ : Env') (n : Nat), I ds.length ρ n → (∀ ρ n, I 0 ρ n → E.nx ρ n) →
    (∀ (k : Nat) (d : D) (ρ : Env') (n : Nat) (E' : DEnds), d ∈ ds → I (k + 1) ρ n → (∀ ρ n, I k ρ n → E'.nx ρ n) → (∀ ρ n, E.nx ρ n → E'.bk ρ n) → E'.rt = E.rt → E'.ex = E.ex → match g d ρ with | some ρ' => tb E' ρ' n | none => False) → forD g tb ds E ρ n
  | [], ρ, n, h, h0, _ => h0 ρ n h
  | d :: ds, ρ, n, h, h0, hs => by
    have z := hs ds.length d ρ n { E with nx := fun ρ'' n'' => forD g tb ds E ρ'' n'', ct := fun ρ'' n'' => forD g tb ds E ρ'' n'', bk := E.nx } List.mem_cons_self h (fun ρ n hi => forD_inv I ds ρ n hi h0 fun k d' ρ n E' hd => hs k d' ρ n E' (List.mem_cons_of_mem _ hd)) (fun _ _ z => z) rfl rfl
    unfold forD
    exact z

/-! ### written data -/
theorem DE.weak {ι : Type} {X : ι → Cx} {W : WX} {e : Expr} {t t' : TD D} (h : DE X W e t) (hw : ∀ ρ K Xx n, t' ρ K Xx n → t ρ K Xx n) : DE X W e t' := by
  obtain ⟨te, p, r⟩ := h
  exact ⟨te, p, fun F H n σ ρ K Kx Q hs ht hq hx => r F H n σ ρ K Kx Q hs (hw ρ K Kx n ht) hq hx⟩
theorem DA.weak {ι : Type} {X : ι → Cx} {W : WX} {es : List Expr} {t t' : TD (List D)} (h : DA X W es t) (hw : ∀ ρ K Xx n, t' ρ K Xx n → t ρ K Xx n) : DA X W es t' := by
  obtain ⟨te, p, r⟩ := h
  exact ⟨te, p, fun F H n σ ρ K Kx Q hs ht hq hx => r F H n σ ρ K Kx Q hs (hw ρ K Kx n ht) hq hx⟩
def constD : Nat → Expr → Option D
  | 0, _ => none
  | k + 1, e => match e with
    | .Constant (.int i) _ _ => some (.int i)
    | .Constant (.bool b) _ _ => some (.bl b)
    | .Constant (.str x) _ _ => some (.str x)
    | .Constant .none _ _ => some .non
    | .UnaryOp .USub (.Constant (.int i) _ _) _ => some (.int (-i))
    | .Tuple es _ _ => if es.length ≤ 1000 then (es.foldr (fun e acc => (constD k e).bind fun d => acc.map (d :: ·)) (some [])).map .tup else none
    | .List es _ => if es.length ≤ 1000 then (es.foldr (fun e acc => (constD k e).bind fun d => acc.map (d :: ·)) (some [])).map .lst else none
    | .Dict [] [] _ => some (.dic [] [])
    | _ => none
theorem plain_const {k : Nat} {e : Expr} {d : D} (h : constD k e = some d) : plainE e = true := by
  cases k with
  | zero => cases h
  | succ k => cases e <;> first | rfl | (unfold constD at h; cases h)
section
variable {ι : Type} {X : ι → Cx} {W : WX}
theorem DA.cst {k : Nat} (ih : ∀ {e : Expr} {d : D}, constD k e = some d → DE X W e (fun _ => pure d)) : ∀ {es : List Expr} {ds : List D}, es.foldr (fun e acc => (constD k e).bind fun d => acc.map (d :: ·)) (some []) = some ds → DA X W es (fun _ => pure ds) ∧ ds.length = es.length
  | [], ds, h => by cases h; exact ⟨.nil, rfl⟩
  | e :: es, ds, h => by
    rw [List.foldr_cons] at h
    obtain ⟨d, h1, h⟩ := Option.bind_eq_some_iff.mp h
    obtain ⟨r, h2, h⟩ := Option.map_eq_some_iff.mp h
    subst h
    obtain ⟨a, l⟩ := DA.cst ih h2
    exact ⟨(DA.cons (ih h1) a (plain_const h1)).weak fun ρ K Xx n h => h, by simp [l]⟩
theorem DE.cstk : ∀ (k : Nat) {e : Expr} {d : D}, constD k e = some d → DE X W e (fun _ => pure d)
  | 0, _, _, h => by cases h
  | k + 1, e, d, h => by
    unfold constD at h
    split at h
    · cases h; exact .int
    · cases h; exact .bl
    · cases h; exact .str
    · cases h; exact .non
    · cases h
      exact (DE.op1 (fun _ _ p => pe_un un_neg p) sem_neg DE.int).weak fun ρ K Xx n h => h
    · split at h
      · rename_i hl
        obtain ⟨ds, h1, h⟩ := Option.map_eq_some_iff.mp h
        subst h
        obtain ⟨a, l⟩ := DA.cst (DE.cstk k) h1
        exact (DE.tup a).weak fun ρ K Xx n h => ⟨by unfold Fits; rw [l, sizeLine_eq]; omega, h⟩
      · cases h
    · split at h
      · rename_i hl
        obtain ⟨ds, h1, h⟩ := Option.map_eq_some_iff.mp h
        subst h
        obtain ⟨a, l⟩ := DA.cst (DE.cstk k) h1
        exact (DE.lst a).weak fun ρ K Xx n h => ⟨by unfold Fits; rw [l, sizeLine_eq]; omega, h⟩
      · cases h
    · cases h; exact .dnew
    · cases h
theorem DE.cst {e : Expr} (d : D) (h : constD 6 e = some d) : DE X W e (fun _ => pure d) := DE.cstk 6 h
end
end DL


set_option maxRecDepth 100000
set_option maxHeartbeats 2000000
/-! DL13: reductions of the monad's rows; errors by name. Own work. -/
namespace DL
open PySem PySem.Spec PyProof.Rows L2
structure ErrG (P : Program) (w : World) (K : PySem.W.Frag) (mg : Str → Option Value) (base : Heap) (x : Str) (C : Addr) (fs : List Str) (k : Nat) : Prop where
  ex : ∃ fI fd ps, OexC K C ∧ PySem.W.findIn K (.ref C) "__init__" = some (some (.ref fI)) ∧ PySem.W.typeIn K (.ref fI) = some (.type "function") ∧ FnOk P w K mg base (L2.CX P w) k fI fd ps (spInit C fs) ∧ Binds K fd ps [] ∧ mg x = some (.ref C)
theorem _root_.L2.Room.room1 {k : Nat} {A : Around} (r : Room k A) : A.units + 1 < cLine := by have := r.units; omega
theorem s_body {t : TDS} {N : Nat} {ds : List D} {Kd : D → Nat → Prop} {X : XD → Nat → Prop} {n : Nat} : bodyW t N ds Kd X n = t { nx := fun _ n' => Kd .non n', rt := Kd, bk := fun _ _ => False, ct := fun _ _ => False, ex := fun x _ n' => X x n' } (ds.map (fun d => some (.d d)) ++ List.replicate (N - ds.length) none) n := rfl
theorem s_brk {E : DEnds} {ρ : Env'} {n : Nat} : (fun (E : DEnds) (ρ : Env') (n : Nat) => E.bk ρ n) E ρ n = E.bk ρ n := rfl
theorem s_par {i j : Nat} {t : TD (List D)} {E : DEnds} {ρ : Env'} {n : Nat} : dPar i j t E ρ n = t ρ (fun ds n' => match ds with
  | [d, e] => E.nx ((ρ.set i (some (.d d))).set j (some (.d e))) n'
  | _ => False) (fun x n' => E.ex x ρ n') n := rfl
theorem s_for {ti : TD (List D)} {g : TDG} {tb : TDS} {E : DEnds} {ρ : Env'} {n : Nat} : dFor ti g tb E ρ n = ti ρ (fun ds n' => forD g tb ds E ρ n') (fun x n' => E.ex x ρ n') n := rfl
theorem s_raise {C : Addr} {fs : List Str} {t : TD (List D)} {E : DEnds} {ρ : Env'} {n : Nat} : raiseW C fs t E ρ n = t ρ (fun ds n' => ds.length = fs.length ∧ E.ex ⟨C, fs.reverse, ds.reverse⟩ ρ n') (fun x n' => E.ex x ρ n') n := rfl
theorem s_asgG {m : TD D} {g : TDG} {E : DEnds} {ρ : Env'} {n : Nat} : dAsg m g E ρ n = m ρ (fun d n' => match g d ρ with | some ρ' => E.nx ρ' n' | none => False) (fun x n' => E.ex x ρ n') n := rfl
theorem wm_match_bool {b : Bool} {α : Type} {x y : α} : (match b with | true => x | false => y) = if b = true then x else y := by cases b <;> rfl
/-! ### by data -/
theorem fEq_int {i j : Int} {K : D → Nat → Prop} {X : XD → Nat → Prop} {n : Nat} : fEqA (.int i) (.int j) K X n = K (.bl (decide (i = j))) n := rfl
theorem fNe_int {i j : Int} {K : D → Nat → Prop} {X : XD → Nat → Prop} {n : Nat} : fNeA (.int i) (.int j) K X n = K (.bl (!decide (i = j))) n := rfl
theorem fEq_str {i j : Str} {K : D → Nat → Prop} {X : XD → Nat → Prop} {n : Nat} : fEqA (.str i) (.str j) K X n = K (.bl (decide (i = j))) n := rfl
theorem fNe_str {i j : Str} {K : D → Nat → Prop} {X : XD → Nat → Prop} {n : Nat} : fNeA (.str i) (.str j) K X n = K (.bl (!decide (i = j))) n := rfl
theorem fInt_at {C : Int → Int → Prop} {g : Int → Int → Int} {i j : Int} {K : D → Nat → Prop} {X : XD → Nat → Prop} {n : Nat} : fInt C g (.int i) (.int j) K X n = (C i j ∧ K (.int (g i j)) n) := rfl
theorem fInt0_at {g : Int → Int → Int} {i j : Int} {K : D → Nat → Prop} {X : XD → Nat → Prop} {n : Nat} : fInt0 g (.int i) (.int j) K X n = K (.int (g i j)) n := rfl
theorem fAdd_int {i j : Int} {K : D → Nat → Prop} {X : XD → Nat → Prop} {n : Nat} : fAdd (.int i) (.int j) K X n = K (.int (i + j)) n := rfl
theorem fCmp_at {g : Int → Int → Bool} {i j : Int} {K : D → Nat → Prop} {X : XD → Nat → Prop} {n : Nat} : fCmpI g (.int i) (.int j) K X n = K (.bl (g i j)) n := rfl
theorem fNeg_at {i : Int} {K : D → Nat → Prop} {X : XD → Nat → Prop} {n : Nat} : fNeg (.int i) K X n = K (.int (-i)) n := rfl
theorem fLen_tup {ds : List D} {K : D → Nat → Prop} {X : XD → Nat → Prop} {n : Nat} : fLen [.tup ds] K X n = K (.int ds.length) n := rfl
theorem fLen_lst {ds : List D} {K : D → Nat → Prop} {X : XD → Nat → Prop} {n : Nat} : fLen [.lst ds] K X n = K (.int ds.length) n := rfl
theorem atI_0 {α : Type} {x : α} {r : List α} : L2.atI (x :: r) 0 = some x := by
  unfold L2.atI L2.ixN
  simp
theorem fIx_t0 {x : D} {r : List D} {K : D → Nat → Prop} {X : XD → Nat → Prop} {n : Nat} : fIx (.tup (x :: r)) (.int 0) K X n = K x n := by
  show (match L2.atI (x :: r) 0 with
    | some d => (pure d : Wm D)
    | none => Wm.fail) K X n = _
  rw [atI_0]
  rfl
theorem fIx_l0 {x : D} {r : List D} {K : D → Nat → Prop} {X : XD → Nat → Prop} {n : Nat} : fIx (.lst (x :: r)) (.int 0) K X n = K x n := by
  show (match L2.atI (x :: r) 0 with
    | some d => (pure d : Wm D)
    | none => Wm.fail) K X n = _
  rw [atI_0]
  rfl
theorem atI_1 {α : Type} {x y : α} {r : List α} : L2.atI (x :: y :: r) 1 = some y := by
  unfold L2.atI L2.ixN
  simp
  have : (1 : Int) < (r.length : Int) + 1 + 1 := by omega
  simp [this]
theorem fIx_t1 {x y : D} {r : List D} {K : D → Nat → Prop} {X : XD → Nat → Prop} {n : Nat} : fIx (.tup (x :: y :: r)) (.int 1) K X n = K y n := by
  show (match L2.atI (x :: y :: r) 1 with
    | some d => (pure d : Wm D)
    | none => Wm.fail) K X n = _
  rw [atI_1]
  rfl
theorem fIx_l1 {x y : D} {r : List D} {K : D → Nat → Prop} {X : XD → Nat → Prop} {n : Nat} : fIx (.lst (x :: y :: r)) (.int 1) K X n = K y n := by
  show (match L2.atI (x :: y :: r) 1 with
    | some d => (pure d : Wm D)
    | none => Wm.fail) K X n = _
  rw [atI_1]
  rfl
theorem fIntC_at {i : Int} {K : D → Nat → Prop} {X : XD → Nat → Prop} {n : Nat} : fIntC [.int i] K X n = K (.int i) n := rfl
theorem fAbs_at {i : Int} {K : D → Nat → Prop} {X : XD → Nat → Prop} {n : Nat} : fAbs [.int i] K X n = K (.int (if i < 0 then -i else i)) n := rfl
theorem fGcd_at {i j : Int} {K : D → Nat → Prop} {X : XD → Nat → Prop} {n : Nat} : fGcd [.int i, .int j] K X n = K (.int (Nat.gcd i.natAbs j.natAbs : Nat)) n := rfl
theorem fRepr_at {d : D} {K : D → Nat → Prop} {X : XD → Nat → Prop} {n : Nat} : fRepr [d] K X n = (Shows d ∧ K (.str (shw d)) n) := rfl
theorem fBits_at {i : Int} {K : D → Nat → Prop} {X : XD → Nat → Prop} {n : Nat} : fBits (.int i) K X n = K (.int (Builtin.Int.intBits i : Nat)) n := rfl
theorem fIs_at {a b : Bool} {K : D → Nat → Prop} {X : XD → Nat → Prop} {n : Nat} : fIs (.bl a) (.bl b) K X n = K (.bl (decide (a = b))) n := rfl
theorem range_at {j : Int} {K : List D → Nat → Prop} {X : XD → Nat → Prop} {n : Nat} : rangeOf [.int j] K X n = (Small62 j ∧ K (rangeD 0 j.toNat) n) := rfl
theorem fits_small {k : Nat} (h : k ≤ 100000) : Fits k := by unfold Fits; rw [sizeLine_eq]; omega
/-! ### kinds -/
mutual
def baseD : D → Bool
  | .non => true
  | .bl _ => true
  | .int _ => true
  | .str _ => true
  | .tup ds => baseL ds
  | .lst ds => baseL ds
  | .dic _ ds => baseL ds
  | .obj _ _ _ => false
  | .exc _ _ _ => false
  | .pen => false
  | .clo _ _ _ => false
  | .fnA _ => false
  | .scr _ _ _ => false
def baseL : List D → Bool
  | [] => true
  | d :: ds => baseD d && baseL ds
end
def intB : D → Bool
  | .int _ => true
  | .bl _ => true
  | _ => false
def blB : D → Bool
  | .bl _ => true
  | _ => false
def tupB : D → Bool
  | .tup _ => true
  | _ => false
def lstB : D → Bool
  | .lst _ => true
  | _ => false
def strB : D → Bool
  | .str _ => true
  | _ => false
section
variable {Kf : PySem.W.Frag} {d : D} {K : D → Nat → Prop} {X : XD → Nat → Prop} {n : Nat}
theorem isi_all {u : Value} {p : Bool} (h : tyOk Kf d) (e : PySem.W.kitOne Kf (tyD d) u = some p) : fIsi1 Kf u d K X n = K (.bl p) n := by
  show (tyOk Kf d ∧ (match PySem.W.kitOne Kf (tyD d) u with
    | some b => (pure (.bl b) : Wm D)
    | none => Wm.fail) K X n) = _
  rw [e]
  exact propext ⟨fun z => z.2, fun z => ⟨h, z⟩⟩
theorem isi_any {us : List Value} {p : Bool} (h : tyOk Kf d) (e : PySem.W.kitAny Kf (tyD d) us = some p) : fIsi Kf us d K X n = K (.bl p) n := by
  show (tyOk Kf d ∧ (match PySem.W.kitAny Kf (tyD d) us with
    | some b => (pure (.bl b) : Wm D)
    | none => Wm.fail) K X n) = _
  rw [e]
  exact propext ⟨fun z => z.2, fun z => ⟨h, z⟩⟩
theorem isi_int (h : baseD d = true) : fIsi1 Kf (.type "int") d K X n = K (.bl (intB d)) n := by
  cases d <;> first | exact isi_all trivial rfl | (unfold baseD at h; cases h)
theorem isi_bool (h : baseD d = true) : fIsi1 Kf (.type "bool") d K X n = K (.bl (blB d)) n := by
  cases d <;> first | exact isi_all trivial rfl | (unfold baseD at h; cases h)
theorem isi_tuple (h : baseD d = true) : fIsi1 Kf (.type "tuple") d K X n = K (.bl (tupB d)) n := by
  cases d <;> first | exact isi_all trivial rfl | (unfold baseD at h; cases h)
theorem isi_list (h : baseD d = true) : fIsi1 Kf (.type "list") d K X n = K (.bl (lstB d)) n := by
  cases d <;> first | exact isi_all trivial rfl | (unfold baseD at h; cases h)
theorem isi_str (h : baseD d = true) : fIsi1 Kf (.type "str") d K X n = K (.bl (strB d)) n := by
  cases d <;> first | exact isi_all trivial rfl | (unfold baseD at h; cases h)
theorem isi_tl (h : baseD d = true) : fIsi Kf [.type "tuple", .type "list"] d K X n = K (.bl (tupB d || lstB d)) n := by
  cases d <;> first | exact isi_any trivial rfl | (unfold baseD at h; cases h)
end
theorem s_try {K : PySem.W.Frag} {i : Nat} {t : TDS} {cl : List Clause} {E : DEnds} {ρ : Env'} {n : Nat} : dTry K i t cl E ρ n = t { E with ex := fun x ρ' n' => i < ρ'.length ∧ dClauses K E x ρ' n' cl } ρ n := rfl

theorem CloSp.mono {P : Program} {w : World} {K : PySem.W.Frag} {mg : Str → Option Value} {base : Heap} {j k : Nat} {r : CloR} {ds : List D} {m : Wm D} (h : CloSp P w K mg base j r ds m) (hk : j ≤ k) : CloSp P w K mg base k r ds m :=
  fun A outer s H F n f Kd Xd Q E hg hr => h A outer s H F n f Kd Xd Q E hg (hr.mono hk)
theorem lam_free_of {L : Nat} {sc : Scope} {names : List (Str × NameKind)} (h : ∀ y ∈ names, y.2 = .free → sc.names.lookup y.1 = some .cell) : ∀ y ∈ names, y.2 = .free → ∃ c, (cellsFrom L sc.names []).lookup y.1 = some c := fun y hy hf =>
  Option.isSome_iff_exists.mp (PySem.W.cellsFrom_some _ _ _ (.inl (h y hy hf)))
theorem lookup_inj : ∀ {cl : List (Str × Addr)}, (cl.map (·.2)).Nodup → ∀ x y c, cl.lookup x = some c → cl.lookup y = some c → x = y
  | cl, nd, x, y, c, h1, h2 => by
    obtain ⟨i, e1⟩ := ix_of_lookup h1
    obtain ⟨j, e2⟩ := ix_of_lookup h2
    have hi : (cl.map (·.2))[i]? = some c := by rw [List.getElem?_map, e1]; rfl
    have hj : (cl.map (·.2))[j]? = some c := by rw [List.getElem?_map, e2]; rfl
    have hlt : i < (cl.map (·.2)).length := (List.getElem?_eq_some_iff.mp hi).1
    have hij : i = j := (List.getElem?_inj hlt nd).mp (hi.trans hj.symm)
    subst hij
    rw [e1] at e2
    cases e2
    rfl
theorem cloScope_mk {N : List Str} {r : CloR} (kind : r.scope.kind = .function) (co : r.scope.isCoroutine = false) (gen : r.scope.isGenerator = false) (own : ∀ y ∈ r.scope.names, y.2 ≠ .local ∧ y.2 ≠ .cell) (names : r.cl.map (·.1) = N) (nd : N.Nodup) (fr : ∀ p ∈ r.scope.names, p.2 = .free → p.1 ∈ N) (ad : (r.cl.map (·.2)).Nodup)
    (bind : bindArgs (PySem.W.kla_fn "<lambda>" r.qual r.params r.body r.scope r.cl r.pm (.ref r.code) r.ctv) ⟨[], []⟩ = pure []) : CloScope N r :=
  ⟨kind, co, gen, own, names, nd, fun y h => fr _ (PySem.mem_of_lookup h) rfl, lookup_inj ad, bind⟩
/-- the texts of rows of lambdas -/
def lamOfAppend : Stmt → Expr
  | .Expr (.Call _ [.Tuple (e :: _) _ _] _ _) _ => e
  | _ => .Tuple [] 0 ⟨0, 0, 0, 0⟩
def lamOfFirst : Stmt → Expr
  | .Assign _ (.List [.Tuple (e :: _) _ _] _) _ => e
  | _ => .Tuple [] 0 ⟨0, 0, 0, 0⟩
def lamP : Expr → Arguments
  | .Lambda p _ _ _ => p
  | _ => { posonlyargs := [], args := [], vararg := none, kwonlyargs := [], kw_defaults := [], kwarg := none, defaults := [] }
def lamB : Expr → Expr
  | .Lambda _ b _ _ => b
  | e => e
def lamS : Expr → Scope
  | .Lambda _ _ s _ => s
  | _ => { kind := .module, names := [], isGenerator := false, isCoroutine := false, more := [] }
/-- a fold over rows, each turn giving the same -/
theorem lcD_const {g : TDG} {te : TD D} {y0 : D} {ρ : Env'} {n : Nat} {X : XD → Nat → Prop} : ∀ (ts acc : List D) (K : List D → Nat → Prop), acc.length + ts.length < sizeLine → (∀ t ∈ ts, ∃ ρ', g t ρ = some ρ' ∧ ∀ K : D → Nat → Prop, K y0 n → te ρ' K XFalse n) → K (acc ++ List.replicate ts.length y0) n → lcD g (fun _ => pure true) te ts ρ acc K X n
  | [], acc, K, _, _, hk => by
    have hk : K (acc ++ []) n := hk
    rw [List.append_nil] at hk
    exact hk
  | t :: ts, acc, K, hl, h, hk => by
    obtain ⟨ρ', e, ht⟩ := h t List.mem_cons_self
    rw [List.length_cons] at hl
    unfold lcD
    rw [e]
    refine ht _ ⟨by omega, ?_⟩
    refine lcD_const ts (acc ++ [y0]) K (by simp; omega) (fun t' ht' => h t' (List.mem_cons_of_mem _ ht')) ?_
    rw [List.append_assoc]
    exact hk
theorem bools_rep {k : Nat} {b : Bool} : boolsOf (List.replicate k (.bl b)) = some (List.replicate k b) := by
  induction k with
  | zero => rfl
  | succ k ih =>
    rw [List.replicate_succ, List.replicate_succ]
    show (boolOf (.bl b)).bind (fun c => (boolsOf (List.replicate k (.bl b))).map (c :: ·)) = _
    rw [ih]
    rfl
end DL


set_option maxRecDepth 100000
set_option maxHeartbeats 2000000
/-! DL14: small data may be shown. Own work. -/
namespace DL
open PySem PySem.Spec PyProof.Rows L2
mutual
/-- ints below 2 ** 200, texts of sane signs, empty dicts -/
def tinyB : D → Bool
  | .non => true
  | .bl _ => true
  | .int i => decide (i.natAbs < 2 ^ 200)
  | .str x => x.cps.toList.all fun c => decide (c < 16 ^ 8)
  | .tup ds => tinyL ds
  | .lst ds => tinyL ds
  | .dic ks ds => ks.isEmpty && ds.isEmpty
  | .obj _ _ _ => false
  | .exc _ _ _ => false
  | .pen => false
  | .clo _ _ _ => false
  | .fnA _ => false
  | .scr _ _ _ => false
def tinyL : List D → Bool
  | [] => true
  | d :: ds => tinyB d && tinyL ds
end
theorem int_short {i : Int} (h : i.natAbs < 2 ^ 200) : (PyData.shown (.int i)).length ≤ 202 ∧ i.natAbs.log2 < 1920 := by
  have h1 : i.natAbs.log2 < 200 := PySem.Flt.log2_lt_of (by decide) h
  have h2 := int_text_length_le (a := i) (k := 200) (by decide) h1
  refine ⟨?_, by omega⟩
  have e : (PyData.shown (.int i)).length = (toString i).length := by
    show (Str.ofString (toString i)).length = _
    rw [PySem.ofString_length]
  omega
mutual
theorem tiny_pd : ∀ {d : D}, tinyB d = true → (pyD d).leavesShort 202 = true ∧ (pyD d).showable = true
  | .non, _ => by unfold pyD; exact ⟨rfl, rfl⟩
  | .bl _, _ => by unfold pyD; exact ⟨rfl, rfl⟩
  | .int i, h => by
    unfold tinyB at h
    have h := int_short (of_decide_eq_true h)
    unfold pyD
    exact ⟨by simp only [PyData.leavesShort]; exact decide_eq_true h.1, by simp only [PyData.showable]; exact decide_eq_true h.2⟩
  | .str x, h => by
    unfold tinyB at h
    unfold pyD
    exact ⟨by simp only [PyData.leavesShort]; exact h, by simp only [PyData.showable]⟩
  | .tup ds, h => by
    unfold tinyB at h
    obtain ⟨a, b⟩ := tiny_pdL h
    unfold pyD
    exact ⟨by simp only [PyData.leavesShort]; exact a, by simp only [PyData.showable]; exact b⟩
  | .lst ds, h => by
    unfold tinyB at h
    obtain ⟨a, b⟩ := tiny_pdL h
    unfold pyD
    exact ⟨by simp only [PyData.leavesShort]; exact a, by simp only [PyData.showable]; exact b⟩
  | .dic ks ds, h => by
    unfold tinyB at h
    obtain ⟨a, b⟩ := Bool.and_eq_true_iff.mp h
    rw [List.isEmpty_iff.mp a, List.isEmpty_iff.mp b]
    unfold pyD pyL
    exact ⟨rfl, rfl⟩
  | .obj _ _ _, h => by unfold tinyB at h; cases h
  | .exc _ _ _, h => by unfold tinyB at h; cases h
  | .pen, h => by unfold tinyB at h; cases h
  | .clo _ _ _, h => by unfold tinyB at h; cases h
  | .fnA _, h => by unfold tinyB at h; cases h
  | .scr _ _ _, h => by unfold tinyB at h; cases h
theorem tiny_pdL : ∀ {ds : List D}, tinyL ds = true → PyData.leavesShortAll 202 (pyL ds) = true ∧ PyData.showableAll (pyL ds) = true
  | [], _ => by unfold pyL; exact ⟨rfl, rfl⟩
  | d :: ds, h => by
    unfold tinyL at h
    obtain ⟨h1, h2⟩ := Bool.and_eq_true_iff.mp h
    obtain ⟨a, b⟩ := tiny_pd h1
    obtain ⟨c, e⟩ := tiny_pdL h2
    unfold pyL
    simp only [PyData.leavesShortAll, PyData.showableAll, a, b, c, e, Bool.and_self, and_self]
end
theorem shows_of {d : D} (h1 : (flatD d || tupD d) = true) (h2 : tinyB d = true) (h3 : (pyD d).depth ≤ 40) (h4 : (pyD d).bulk ≤ 1000) : Shows d := by
  obtain ⟨a, b⟩ := tiny_pd h2
  have := PyData.shown_le_bulk 202 (by decide) (pyD d) a
  exact ⟨h1, b, h3, by rw [sizeLine_eq]; omega⟩
end DL


set_option maxRecDepth 100000
set_option maxHeartbeats 2000000
/-! DL15: promises from what the top has written. Own work over HandS. -/
namespace DL
open PySem PySem.Spec PyProof.Rows L2
/-- the i-th def of a class's text -/
def clsDef (i : Nat) : Stmt → Stmt
  | .ClassDef _ _ _ body _ _ _ _ _ _ _ => body.getD i (.Pass ⟨0, 0, 0, 0⟩)
  | s => s
section
variable {P : Program} {w : World} {K : PySem.W.Frag} {mg : Str → Option Value} {base h : Heap}
theorem defF_mk {x : Str} {st : Stmt} {ps : List Str} {f : Addr} {oc : Value} {od an : Option Addr} {osl : Array (Option Value)} {kV doc pm cdv ct : Value} (X : K.In h) (G : h.Ns mainGlobals mg) (a : PySem.W.nsIn K mainGlobals x = some (some (.ref f)))
    (l : K.lookup f = some ⟨oc, od, .func (PySem.W.fnOf x x (defArgs st) (defBody st) (defScope st) .none kV doc pm an cdv ct), osl⟩) (c : PySem.W.codeIn K cdv x = true) (k : PySem.W.keepIn K (.ref f) = true) (hb : ∀ fd, Fun K x x st f fd → Binds K fd ps []) : DefF K mg x st ps :=
  have F := fun_mk (st := st) l c k
  ⟨f, _, F, PySem.W.mg_of X G a, hb _ F⟩
/-- a class that is caught, fields of which are read -/
structure CatchF (K : PySem.W.Frag) (mg : Str → Option Value) (x : Str) (C : Addr) (it : List FIt) : Prop where
  m : mg x = some (.ref C)
  X : XfC K C
  no : ∀ y, (y, true) ∈ it → PySem.W.findIn K (.ref C) y = some none
theorem catchF_mk {x : Str} {C : Addr} {it : List FIt} (X : K.In h) (G : h.Ns mainGlobals mg) (a : PySem.W.nsIn K mainGlobals x = some (some (.ref C))) (b : xfB K C = true) (c : it.all (fun p => !p.2 || decide (PySem.W.findIn K (.ref C) p.1 = some none)) = true) : CatchF K mg x C it :=
  ⟨PySem.W.mg_of X G a, xfB_ok b, fun y hy => by
    have := List.all_eq_true.mp c _ hy
    simpa using this⟩
theorem oexC_mk {C : Addr} {nm q : Str} {N : Addr} {bs bm : List Value} {sn : List Str} {sub : List Value} {ab : Bool} {col : Option Bool} {dd : Option Addr} {m0 m1 m2 m3 m5 : Option Value} (xL : K.lookup C = some (excClassObj nm q C N bs bm true sn sub ab col dd m0 m1 m2 m3 m5 "ValueError.__new__")) (rv : PySem.HandSPX.refsVE bm = true)
    (sa : PySem.W.findIn K (.ref C) "__setattr__" = some (some (.builtin "object.__setattr__"))) (eC : PySem.W.subIn K (.ref C) (.type "BaseException") = some true) (tC : PySem.W.typeIn K (.ref C) = some (.type "type")) (kC : PySem.W.keepIn K (.ref C) = true) : OexC K C :=
  ⟨⟨nm, q, N, bs, bm, sn, sub, ab, col, dd, m0, m1, m2, m3, m5, xL, rv⟩, sa, eC, tC, kC⟩
theorem errG_mk {x qual msg : Str} {st : Stmt} {C f : Addr} {ps fs : List Str} {oc : Value} {od an : Option Addr} {osl : Array (Option Value)} {kV doc pm cdv ct : Value} (X : K.In h) (G : h.Ns mainGlobals mg) (a : PySem.W.nsIn K mainGlobals x = some (some (.ref C))) (T : OexC K C)
    (iC : PySem.W.findIn K (.ref C) "__init__" = some (some (.ref f))) (tI : PySem.W.typeIn K (.ref f) = some (.type "function")) (l : K.lookup f = some ⟨oc, od, .func (PySem.W.fnOf "__init__" qual (defArgs st) (defBody st) (defScope st) .none kV doc pm an cdv ct), osl⟩) (c : PySem.W.codeIn K cdv qual = true) (k : PySem.W.keepIn K (.ref f) = true)
    (no : fs.all (fun y => decide (PySem.W.findIn K (.ref C) y = some none)) = true) (hb : ∀ fd, Fun K "__init__" qual st f fd → Binds K fd ps []) (S : FnScope ps ps (defScope st)) (hf : fs ≠ []) (hps : ps.length = fs.length + 1) (hz : fs.length ≤ 800)
    (hbody : ∀ (cdv : Value) (A : Around) (outer : List Env) (s : Shared) (H : Hp) (E : XK), PSs (cxOf (L2.CX P w) P w K mg base ps qual (defScope st) f cdv A outer s H E) (defBody st) (tInit K msg fs)) : ErrG P w K mg base x C fs 1 :=
  have F := fun_mk (st := st) l c k
  ⟨f, _, ps, T, iC, tI, init_ok (k := 0) F S T hf hps hz (fun y hy => by
    have := List.all_eq_true.mp no _ hy
    simpa using this) hbody, hb _ F, PySem.W.mg_of X G a⟩
theorem baseInit_mk {CD : Addr} (ga : PySem.W.specialIn K (.ref CD) "__getattribute__" = some (some (.builtin "type.__getattribute__"))) (ty : PySem.W.typeIn K (.ref CD) = some (.type "type")) (rd : PySem.W.readsIn K CD (.type "type") = true) (fd : PySem.W.findCls K (.ref CD) (.type "type") "__init__" = some (.val (.builtin "ValueError.__init__"))) : BaseInit K CD := ⟨ga, ty, rd, fd⟩
end
end DL


set_option maxRecDepth 100000
set_option maxHeartbeats 2000000
/-! DL16: a module's number, chains, slices, zip, in, pop, products of lists. Own work over HandS. -/
namespace DL
open PySem PySem.Spec PyProof.Rows L2
section
variable {ι : Type} {X : ι → Cx} {W : WX}
/-! ### a module's number -/
theorem DE.glob {x : Str} {i : Int} {t : Tok} {pos : Pos} (hg : ∀ j, Gl (X j) x) (hm : ∀ j, (X j).mg x = some (.int i t)) (hd : (x == ("__debug__" : Str)) = false := by decide) : DE X W (.Name x pos) (fun _ => pure (.int i)) :=
  .const (fun j => pe_glob (v := .int i) (hg j) (hm j) ⟨t, rfl⟩ hd) fun _ _ => .int i
/-! ### a < b < c -/
theorem DE.chain {a b c : Expr} {op op' : CmpOp} {pos : Pos} {r r' : R2} {φ φ' : D → D → Wm D} {t u v : TD D} (ho : ∀ i, OpR (X i) (compareOp op) r) (ho' : ∀ i, OpR (X i) (compareOp op') r') (hr : Sem2 r φ) (hr' : Sem2 r' φ') (h1 : DE X W a t) (h2 : DE X W b u) (h3 : DE X W c v)
    (hm : lastMarks [op, op'] [b, c] = false := by with_unfolding_all rfl) :
    DE X W (.Compare a [op, op'] [b, c] pos) (fun ρ => do let x ← t ρ; let y ← u ρ; match ← calm (φ x y) with | .bl true => (do let z ← v ρ; calm (φ' y z)) | .bl false => pure (.bl false) | _ => Wm.fail) := by
  obtain ⟨te, p1, r1⟩ := h1
  obtain ⟨tu, p2, r2⟩ := h2
  obtain ⟨tv, p3, r3⟩ := h3
  refine ⟨_, fun i => pe_chain (ho i) (ho' i) (p1 i) (p2 i) (p3 i) hm, fun F H n σ ρ K Kx Q hs ht hq hx => ?_⟩
  refine r1 F H n σ ρ _ Kx _ hs ht (fun x d F1 H1 n1 g1 hv ht1 => ?_) hx
  refine r2 F1 H1 n1 σ ρ _ Kx _ (hs.mono g1) ht1 (fun y d2 F2 H2 n2 g2 hw ht2 => ?_) fun cls od xd F' H' n' g => hx cls od xd F' H' n' (g1.trans g)
  refine hr F2 H2 n2 x y d d2 _ _ g2.pb (hv.mono g2) hw ht2 fun z d3 F3 H3 n3 g3 hz ht3 => ?_
  cases hz with
  | bl k =>
    refine ⟨k, rfl, ?_⟩
    cases k with
    | false => exact iteF (hq _ _ F3 H3 n3 (g1.trans (g2.trans g3)) (.bl false) ht3)
    | true =>
      have g123 := g1.trans (g2.trans g3)
      refine iteT (r3 F3 H3 n3 σ ρ _ Kx _ (hs.mono g123) ht3 (fun z d4 F4 H4 n4 g4 hz4 ht4 => ?_) fun cls od xd F' H' n' g => hx cls od xd F' H' n' (g123.trans g))
      exact hr' F4 H4 n4 y z d2 d4 K Q g4.pb (hw.mono (g3.trans g4)) hz4 ht4 fun v5 d5 F5 H5 n5 g5 => hq v5 d5 F5 H5 n5 (g123.trans (g4.trans g5))
  | _ => exact ht3.elim
theorem DT.chain {a b c : Expr} {op op' : CmpOp} {pos : Pos} {r r' : R2} {φ φ' : D → D → Wm D} {t u v : TD D} (ho : ∀ i, OpR (X i) (compareOp op) r) (ho' : ∀ i, OpR (X i) (compareOp op') r') (hr : Sem2 r φ) (hr' : Sem2 r' φ') (h1 : DE X W a t) (h2 : DE X W b u) (h3 : DE X W c v)
    (hm : lastMarks [op, op'] [b, c] = false := by with_unfolding_all rfl) :
    DT X W (.Compare a [op, op'] [b, c] pos) (fun ρ => do let x ← t ρ; let y ← u ρ; match ← calm (φ x y) with | .bl true => (do let z ← v ρ; match ← calm (φ' y z) with | .bl b => pure b | _ => Wm.fail) | .bl false => pure false | _ => Wm.fail) := by
  obtain ⟨te, p1, r1⟩ := h1
  obtain ⟨tu, p2, r2⟩ := h2
  obtain ⟨tv, p3, r3⟩ := h3
  refine ⟨_, fun i => pt_chain (ho i) (ho' i) (p1 i) (p2 i) (p3 i) hm, fun F H n σ ρ K Kx Q hs ht hq hx => ?_⟩
  refine r1 F H n σ ρ _ Kx _ hs ht (fun x d F1 H1 n1 g1 hv ht1 => ?_) hx
  refine r2 F1 H1 n1 σ ρ _ Kx _ (hs.mono g1) ht1 (fun y d2 F2 H2 n2 g2 hw ht2 => ?_) fun cls od xd F' H' n' g => hx cls od xd F' H' n' (g1.trans g)
  refine hr F2 H2 n2 x y d d2 _ _ g2.pb (hv.mono g2) hw ht2 fun z d3 F3 H3 n3 g3 hz ht3 => ?_
  cases hz with
  | bl k =>
    refine ⟨k, rfl, ?_⟩
    cases k with
    | false => exact iteF ⟨false, rfl, hq false F3 H3 n3 (g1.trans (g2.trans g3)) ht3⟩
    | true =>
      have g123 := g1.trans (g2.trans g3)
      refine iteT (r3 F3 H3 n3 σ ρ _ Kx _ (hs.mono g123) ht3 (fun z d4 F4 H4 n4 g4 hz4 ht4 => ?_) fun cls od xd F' H' n' g => hx cls od xd F' H' n' (g123.trans g))
      refine hr' F4 H4 n4 y z d2 d4 _ _ g4.pb (hw.mono (g3.trans g4)) hz4 ht4 fun v5 d5 F5 H5 n5 g5 hv5 ht5 => ?_
      cases hv5 with
      | bl b => exact ⟨b, rfl, hq b F5 H5 n5 (g123.trans (g4.trans g5)) ht5⟩
      | _ => exact ht5.elim
  | _ => exact ht3.elim
/-! ### slices of tuples -/
def RunO (W : WX) (tl : TO) (t : TD (Option Int)) : Prop := ∀ (F : Addr → Prop) (H : Hp) (n : Nat) (σ : L2.St) (ρ : Env') (K : Option Int → Nat → Prop) (X : XD → Nat → Prop) (Q : Option Int → Hp → Prop), HasS F H n σ ρ → t ρ K X n →
  (∀ o F' H' n', Grow F H n F' H' n' → K o n' → Q o H') → (∀ cls od xd F' H' n', Grow F H n F' H' n' → HasX F' H' cls od xd → X xd n' → W cls od σ H') → tl σ H Q
structure DO {ι : Type} (X : ι → Cx) (W : WX) (e : Option Expr) (t : TD (Option Int)) : Prop where
  ex : ∃ tl, (∀ i, PO (X i) e tl) ∧ RunO W tl t
theorem DO.no : DO X W none (fun _ => pure none) := ⟨_, fun _ => po_none, fun F H n σ ρ K Kx Q hs ht hq _ => hq none F H n (.refl hs.pb) ht⟩
theorem DO.so {e : Expr} {t : TD D} (h : DE X W e t) : DO X W (some e) (fun ρ => do match ← t ρ with | .int i => pure (some i) | _ => Wm.fail) := by
  obtain ⟨te, p, r⟩ := h
  refine ⟨_, fun i => po_some (p i), fun F H n σ ρ K Kx Q hs ht hq hx => ?_⟩
  refine r F H n σ ρ _ Kx _ hs ht (fun v d F1 H1 n1 g1 hv ht1 => ?_) hx
  cases hv with
  | int i => exact ⟨i, rfl, hq _ F1 H1 n1 g1 ht1⟩
  | _ => exact ht1.elim
def cutD (ds : List D) (lo hi : Option Int) : List D := (ds.drop (HT.sIx ds.length 0 lo)).take (HT.sIx ds.length ds.length hi - HT.sIx ds.length 0 lo)
def fCut (d : D) (lo hi : Option Int) : Wm D := match d with
  | .tup ds => pure (.tup (cutD ds lo hi))
  | .lst ds => pure (.lst (cutD ds lo hi))
  | _ => Wm.fail
theorem HasL.drop {F : Addr → Prop} {H : Hp} : ∀ {vs : List V} {ds : List D} (k : Nat), HasL F H vs ds → HasL F H (vs.drop k) (ds.drop k)
  | _, _, 0, h => h
  | _, _, k + 1, .nil => .nil
  | _, _, k + 1, .cons _ l => HasL.drop k l
theorem HasL.take {F : Addr → Prop} {H : Hp} : ∀ {vs : List V} {ds : List D} (k : Nat), HasL F H vs ds → HasL F H (vs.take k) (ds.take k)
  | _, _, 0, _ => .nil
  | _, _, k + 1, .nil => .nil
  | _, _, k + 1, .cons h l => .cons h (HasL.take k l)
theorem DE.sl {e : Expr} {lo hi : Option Expr} {t : TD D} {tl th : TD (Option Int)} {pos p2 : Pos} {K : PySem.W.Frag} (hK : ∀ i, (X i).K = K) (h : DE X W e t) (hl : DO X W lo tl) (hh : DO X W hi th) :
    DE X W (.Subscript e (.Slice lo hi none p2) pos) (fun ρ => do let d ← t ρ; let l ← tl ρ; let u ← th ρ; fCut d l u) := by
  obtain ⟨te, p, r⟩ := h
  obtain ⟨a, pl, rl⟩ := hl
  obtain ⟨b, ph, rh⟩ := hh
  refine ⟨tSl (fun x lo hi H Q => rSlA K x lo hi H Q ∨ rSlL K x lo hi H Q) te a b, fun i => by rw [← hK i]; exact pe_slice (sl_tupA.or sl_list) (p i) (pl i) (ph i), fun F H n σ ρ Kd Kx Q hs ht hq hx => ?_⟩
  refine r F H n σ ρ _ Kx _ hs ht (fun v d F1 H1 n1 g1 hv ht1 => ?_) hx
  refine rl F1 H1 n1 σ ρ _ Kx _ (hs.mono g1) ht1 (fun l F2 H2 n2 g2 ht2 => ?_) fun cls od xd F' H' n' g => hx cls od xd F' H' n' (g1.trans g)
  refine rh F2 H2 n2 σ ρ _ Kx _ (hs.mono (g1.trans g2)) ht2 (fun u F3 H3 n3 g3 ht3 => ?_) fun cls od xd F' H' n' g => hx cls od xd F' H' n' (g1.trans (g2.trans g))
  have g := g1.trans (g2.trans g3)
  have hv3 := hv.mono (g2.trans g3)
  cases hv3 with
  | @tup a vs ds f ha hl =>
    have ht3 : Kd (.tup (cutD ds l u)) n3 := ht3
    unfold cutD at ht3
    rw [← hl.len] at ht3
    refine .inl ⟨a, vs, rfl, .of ha, fun e => ?_, fun _ q hp => ?_⟩
    · rw [e.1, e.2, Nat.sub_zero, List.drop_zero, List.take_of_length_le (by rw [hl.len]; exact Nat.le_refl _)] at ht3
      exact hq _ (.tup ds) F3 H3 n3 g (.tup f ha hl) ht3
    · have g4 : Grow F3 H3 n3 (plusF F3 q) (upd H3 q (.tup (cutV vs l u))) n3 := .laid g.pb hp .tup
      exact hq _ _ _ _ n3 (g.trans g4) (.tup plusF_same upd_same (((hl.drop _).take _).mono g4)) ht3
  | @lst a vs ds f ha hl =>
    have ht3 : Kd (.lst (cutD ds l u)) n3 := ht3
    unfold cutD at ht3
    rw [← hl.len] at ht3
    refine .inr ⟨a, vs, rfl, .of ha, fun q hp => ?_⟩
    have g4 : Grow F3 H3 n3 (plusF F3 q) (upd H3 q (.lst (cutV vs l u))) n3 := .laid g.pb hp .lst
    exact hq _ _ _ _ n3 (g.trans g4) (.lst plusF_same upd_same (((hl.drop _).take _).mono g4)) ht3
  | _ => exact ht3.elim
/-! ### list * int -/
def fMul : D → D → Wm D
  | .int i, .int j => do Wm.need (CMulW i j); pure (.int (i * j))
  | .lst ds, .int k => do Wm.need (-(2 ^ 63) ≤ k ∧ k < 2 ^ 63 ∧ Fits (ds.length * k.toNat)); pure (.lst (List.replicate k.toNat ds).flatten)
  | _, _ => Wm.fail
def rMulA : R2 := fun x y H Q => (∃ i j, x = .int i ∧ y = .int j ∧ CMulW i j ∧ Q (.int (i * j)) H) ∨ rRep x y H Q
theorem op_mulA {X : Cx} : OpR X (binaryOp .Mult) rMulA := op_mulW.or op_rep
theorem HasL.reps {F : Addr → Prop} {H : Hp} {vs : List V} {ds : List D} (h : HasL F H vs ds) : ∀ k : Nat, HasL F H (List.replicate k vs).flatten (List.replicate k ds).flatten
  | 0 => .nil
  | k + 1 => by
    rw [List.replicate_succ, List.replicate_succ, List.flatten_cons, List.flatten_cons]
    exact h.app (HasL.reps h k)
theorem sem_mulA : Sem2 rMulA fMul := by
  intro F H n x y a b Kd Q pb hx hy ht hq
  cases hx <;> cases hy <;> first | exact ht.elim | skip
  case int.int i j => exact .inl ⟨i, j, rfl, rfl, ht.1, hq _ _ F H n (.refl pb) (.int _) ht.2⟩
  case lst.int a vs ds f ha hl k =>
    refine .inr ⟨a, k, vs, rfl, rfl, ha, ht.1.1, ht.1.2.1, by rw [hl.len]; exact ht.1.2.2, fun p hp => ?_⟩
    have g : Grow F H n (plusF F p) (upd H p (.lst (List.replicate k.toNat vs).flatten)) n := .laid pb hp .lst
    exact hq _ _ _ _ n g (.lst plusF_same upd_same ((hl.reps _).mono g)) ht.2
/-! ### zip of two lists -/
def zipOf : List D → Wm (List D)
  | [.lst xs, .lst ys] => pure ((xs.zip ys).map fun p => .tup [p.1, p.2])
  | _ => Wm.fail
theorem yld_zip {K : PySem.W.Frag} {F : Addr → Prop} {H : Hp} {n : Nat} {a b : Addr} {vs ws : List V} {ds es : List D} (fa : F a) (ha : H a = some (.lst vs)) (hl : HasL F H vs ds) (fb : F b) (hb : H b = some (.lst ws)) (hm : HasL F H ws es) :
    Yld (Itz K a b) F H n ((ds.zip es).map fun p => .tup [p.1, p.2]) where
  stop := fun i F' H' n' l hi => ⟨vs, ws, .of (l.keepL fa ha .lst), .of (l.keepL fb hb .lst), by
    rw [List.length_map, List.length_zip] at hi
    rw [hl.len, hm.len]
    omega⟩
  go := fun i d F' H' n' l pb e => by
    rw [List.getElem?_map] at e
    obtain ⟨p, e1, e2⟩ := Option.map_eq_some_iff.mp e
    obtain ⟨h1, h2⟩ := List.getElem?_zip_eq_some.mp e1
    obtain ⟨v, q1, hv⟩ := (hl.later l).get h1
    obtain ⟨w, q2, hw⟩ := (hm.later l).get h2
    have ha' : SqL K H' a vs := .of (l.keepL fa ha .lst)
    have hb' : SqL K H' b ws := .of (l.keepL fb hb .lst)
    refine ⟨⟨vs, ws, v, w, ha', hb', q1, q2⟩, fun x H'' y => ?_⟩
    obtain ⟨T, x1, y1, rfl, hT, rfl, y2, y3⟩ := y
    have z1 := y2 vs ha'
    have z2 := y3 ws hb'
    rw [q1] at z1
    rw [q2] at z2
    cases z1
    cases z2
    have g : Grow F' H' n' (plusF F' T) (upd H' T (.tup [v, w])) n' := .laid pb hT .tup
    subst e2
    exact ⟨_, g, .tup plusF_same upd_same (.cons (hv.mono g) (.cons (hw.mono g) .nil))⟩
theorem DI.zip {a b : Expr} {t : TD (List D)} {p pos tpos : Pos} {elts : List Expr} {kk : Nat} {K : PySem.W.Frag} (hK : ∀ i, (X i).K = K) (hg : ∀ i, Gl (X i) "zip") (hm : ∀ i, (X i).mg "zip" = none) (h : DA X W [a, b] t)
    (hs : ∀ i, starEach [a, b] (X i).env = (false, eval a (X i).env) :: starEach [b] (X i).env := by intro _; rfl) (hpl : ∀ i, (backTo pos (starEach [b] (X i).env)).any (·.1) = false := by intro _; rfl) :
    DI X W (.Tuple elts kk tpos) (.Call (.Name "zip" p) [a, b] [] pos) (fun ρ => do zipOf (← t ρ)) := by
  obtain ⟨ta, pa, r⟩ := h
  refine ⟨iZip K ta, fun i => by rw [← hK i]; exact pi_zip (hg i) (hm i) (pa i) (hs i) (hpl i), fun F H n σ ρ Kd Kx R hs ht hq hx => ?_⟩
  refine r F H n σ ρ _ Kx _ hs ht (fun vs ds F1 H1 n1 g1 hv ht1 => ?_) hx
  cases hv with
  | nil => exact ht1.elim
  | cons h1 h2 =>
    cases h2 with
    | nil => cases h1 <;> exact ht1.elim
    | cons h2 h3 =>
      cases h3 with
      | cons _ _ => cases h1 <;> cases h2 <;> exact ht1.elim
      | nil =>
        cases h1 <;> cases h2 <;> first | exact ht1.elim | skip
        case lst.lst a vs ds fa ha hl b ws es fb hb hm =>
          exact ⟨a, b, vs, ws, rfl, .of ha, .of hb, hq _ _ F1 H1 n1 g1 (yld_zip fa ha hl fb hb hm) ht1⟩
/-! ### x in a tuple -/
def rInT (K : PySem.W.Frag) : R2 := fun x y H Q => ∃ d ds, Dp K H x d ∧ Dp K H y (.tuple ds) ∧ SeqAt.shaped d = true ∧ SeqAt.shaped (.tuple ds) = true ∧ Q (.bl (ds.any fun z => PyData.eqv z d)) H
theorem room_inT {A : Around} {d : PyData} {ds : List PyData} (h : SeqAt.shaped d = true) (hu : A.units + 65 < cLine) : A.units + 1 + min (PyData.depthAll ds) d.depth < cLine := by
  have h1 := SeqAt.depth_of_shaped h
  have h2 : min (PyData.depthAll ds) d.depth ≤ d.depth := Nat.min_le_right _ _
  omega
theorem op_inT {X : Cx} (hu : X.A.units + 65 < cLine) : OpR X (compareOp .In) (rInT X.K) := by
  intro pins s σ H x y v u Q I rx ry h
  obtain ⟨d, ds, hd, he, sd, se, q⟩ := h
  obtain ⟨as, r1⟩ := Dp.reads I d x v hd rx
  obtain ⟨bs, r2⟩ := Dp.reads I (.tuple ds) y u he ry
  have hl : PyData.canLayAll0 ds = true := by
    have := SeqAt.canLay_of_shaped se
    simpa [PyData.canLay0] using this
  exact SeqAt.in_tuple_reads r2 r1 hl (SeqAt.canLay_of_shaped sd) (room_inT sd hu) ⟨.bl _, H, I, rfl, q⟩
def fIn (d e : D) : Wm D := match e with
  | .tup es => do Wm.need (EqOk d ∧ EqOk (.tup es)); pure (.bl (es.any fun z => eqD z d))
  | _ => Wm.fail
theorem pyL_any {d : D} : ∀ es : List D, (pyL es).any (fun z => PyData.eqv z (pyD d)) = es.any fun z => eqD z d
  | [] => by unfold pyL; rfl
  | e :: es => by unfold pyL; rw [List.any_cons, List.any_cons, pyL_any es]; rfl
theorem sem_inT {K : PySem.W.Frag} : Sem2 (rInT K) fIn := by
  intro F H n x y a b Kd Q pb hx hy ht hq
  cases b with
  | tup es =>
    obtain ⟨⟨⟨f1, s1⟩, f2, s2⟩, hk⟩ := ht
    have e : pyD (.tup es) = .tuple (pyL es) := by unfold pyD; rfl
    have dy := hy.dp (K := K) f2
    rw [e] at dy s2
    exact ⟨_, _, hx.dp f1, dy, s1, s2, by rw [pyL_any]; exact hq _ _ F H n (.refl pb) (.bl _) hk⟩
  | _ => exact ht.elim
/-! ### a list of one's own: len, pop, + -/
theorem DE.lenOwn {k : Nat} {o : Expr} {p pos : Pos} {K : PySem.W.Frag} (hK : ∀ i, (X i).K = K) (hg : ∀ i, Gl (X i) "len") (hm : ∀ i, (X i).mg "len" = none) (ho : ∀ i, PE (X i) o (tVar k))
    (hs : ∀ i, starEach [o] (X i).env = (false, eval o (X i).env) :: starEach [] (X i).env := by intro _; rfl) (hpl : ∀ i, (backTo pos (starEach [] (X i).env)).any (·.1) = false := by intro _; rfl) :
    DE X W (.Call (.Name "len" p) [o] [] pos) (fun ρ => match ρ[k]? with | some (some (.ml ds)) => pure (.int ds.length) | _ => Wm.fail) := by
  refine ⟨tCB (rLen K) (tCons (tVar k) tNil), fun i => by rw [← hK i]; exact pe_callB call_lenA (hg i) (hm i) (by decide +kernel) (pa_cons (ho i) pa_nil (hs i)) (by decide) (by decide) (hs i) (hpl i), fun F H n σ ρ Kd Kx Q hs ht hq hx => ?_⟩
  have ht : (match ρ[k]? with | some (some (.ml ds)) => (pure (.int ds.length) : Wm D) | _ => Wm.fail) Kd Kx n := ht
  match e : ρ[k]? with
  | some (some (.d _)) => rw [e] at ht; exact ht.elim
  | some none => rw [e] at ht; exact ht.elim
  | none => rw [e] at ht; exact ht.elim
  | some (some (.ml ds)) =>
    rw [e] at ht
    obtain ⟨v, e1, a, vs, rfl, ha, hl, nf⟩ := hs.at_ k _ e
    exact ⟨.ref a, e1, .inl ⟨a, vs, rfl, .inl (.of ha), by rw [hl.len]; exact hq _ _ F H n (.refl hs.pb) (.int _) ht⟩⟩
/-- target = x.pop() -/
def dPop (k : Nat) (g : TDG) : TDS := fun E ρ n => match ρ[k]? with
  | some (some (.ml ds)) => match ds.getLast? with
    | some d => match g d (ρ.set k (some (.ml ds.dropLast))) with
      | some ρ' => E.nx ρ' n
      | none => False
    | none => False
  | _ => False
theorem HasL.dropLast {F : Addr → Prop} {H : Hp} : ∀ {vs : List V} {ds : List D}, HasL F H vs ds → HasL F H vs.dropLast ds.dropLast
  | _, _, .nil => .nil
  | _, _, .cons h .nil => .nil
  | _, _, .cons h (.cons h2 l) => .cons h (HasL.dropLast (.cons h2 l))
theorem DS.pop {k : Nat} {tg o : Expr} {g : TDG} {us : List Nat} {p1 p2 pos : Pos} {K : PySem.W.Frag} (hK : ∀ i, (X i).K = K) (ho : ∀ i, PE (X i) o (tVar k)) (hg : DG X tg g us)
    (hp : ∀ i, PE (X i) (.Call (.Attribute o "pop" p1) [] [] p2) (tBM0 (X i).K "list" rPop (tVar k)))
    (hs : ∀ i, swapsWithSole [tg] (.Call (.Attribute o "pop" p1) [] [] p2) pos.line (X i).env = pure false := by intro _; rfl) (hw : ∀ i, swappedStores [tg] (.Call (.Attribute o "pop" p1) [] [] p2) (X i).env = pure none := by intro _; rfl)
    (h1 : ∀ i, (assignEach [tg] (X i).env).map (·.2) = [assign tg (X i).env] := by intro _; rfl) : DS X W (.Assign [tg] (.Call (.Attribute o "pop" p1) [] [] p2) pos) (dPop k g) := by
  obtain ⟨tgk, pg, rg⟩ := hg
  refine ⟨_, fun i => ps_asg (te := tBM0 K "list" rPop (tVar k)) (by rw [← hK i]; exact hp i) (pg i) (hs i) (hw i) (h1 i), fun B F H n σ ρ E Z s h eo => ?_⟩
  have h : (match ρ[k]? with
  | some (some (.ml ds)) => match ds.getLast? with
    | some d => match g d (ρ.set k (some (.ml ds.dropLast))) with
      | some ρ' => E.nx ρ' n
      | none => False
    | none => False
  | _ => False) := h
  match e : ρ[k]? with
  | some (some (.d _)) => rw [e] at h; exact h.elim
  | some none => rw [e] at h; exact h.elim
  | none => rw [e] at h; exact h.elim
  | some (some (.ml ds)) =>
    rw [e] at h
    obtain ⟨v, e1, a, vs, rfl, ha, hl, nf⟩ := s.hs.at_ k _ e
    cases q : ds.getLast? with
    | none => simp only [q] at h
    | some d =>
      simp only [q] at h
      have q2 : ds[ds.length - 1]? = some d := by rw [← List.getLast?_eq_getElem?]; exact q
      obtain ⟨y, q3, hy⟩ := hl.get q2
      refine ⟨.ref a, e1, .inl ⟨rfl, _, .of ha⟩, a, vs, y, rfl, rfl, ha, by rw [hl.len]; exact q3, ?_⟩
      obtain ⟨s2, l2⟩ := s.own_put e e1 ha nf hl.dropLast
      cases q4 : g d (ρ.set k (some (.ml ds.dropLast))) with
      | none => rw [q4] at h; exact h.elim
      | some ρ' =>
        rw [q4] at h
        exact rg F _ n σ _ ρ' y d _ s2.hs (hy.out nf) q4 fun σ' s3 o => eo.nx σ' ρ' F _ n (s2.only s3 o) l2 h
/-- x = x + [e, ..] -/
def dOwnCat (k : Nat) (t : TD (List D)) : TDS := fun E ρ n => t ρ (fun es n' => match ρ[k]? with
  | some (some (.ml ds)) => (Fits es.length ∧ Fits (ds.length + es.length)) ∧ E.nx (ρ.set k (some (.ml (ds ++ es)))) n'
  | _ => False) (fun x n' => E.ex x ρ n') n
theorem DS.ownCat {k : Nat} {x : Str} {o : Expr} {es : List Expr} {t : TD (List D)} {p2 p3 pos pos' : Pos} (hN : ∀ i, (X i).N.Nodup) (hi : ∀ i, (X i).N[k]? = some x) (hx : ∀ i, Loc (X i).env.scope x) (ho : ∀ i, PE (X i) o (tVar k)) (h : DA X W es t)
    (hs : ∀ i, swapsWith (.BinOp o .Add (.List es p2) p3) (some (.Name x pos')) pos.line (X i).env = pure false := by intro _; rfl)
    (hf : ∀ i, (X i).fn x = true ∨ (X i).env.scope.names.lookup x = some .local := by first | exact fun _ => .inl rfl | exact fun _ => .inr rfl) : DS X W (.Assign [.Name x pos'] (.BinOp o .Add (.List es p2) p3) pos) (fun E ρ n => (∃ ds, ρ[k]? = some (some (.ml ds))) ∧ dOwnCat k t E ρ n) := by
  obtain ⟨ta, p, r⟩ := h
  refine ⟨_, fun i => ps_set (i := k) (hN i) (hi i) (hx i) (pe_op op_cat (ho i) (pe_lst (p i))) (hs i) (hf i), fun B F H n σ ρ E D s h eo => ?_⟩
  obtain ⟨⟨ds, e⟩, h⟩ := h
  obtain ⟨v, e1, _⟩ := s.hs.at_ k _ e
  refine ⟨v, e1, ?_⟩
  refine r F H n σ ρ _ _ _ s.hs h (fun vs es' F' H' n' g hv hk => ?_) fun cls od xd F' H' n' g hx he => eo.ex cls od xd σ ρ F' H' n' (s.mono g) g.later hx he
  rw [e] at hk
  obtain ⟨⟨hk1, hk2⟩, hk⟩ := hk
  have s1 := s.mono g
  obtain ⟨v', e1', a, ws, rfl, ha, hl, nf⟩ := s1.hs.at_ k _ e
  rw [e1] at e1'
  cases e1'
  refine ⟨by rw [hv.len]; exact hk1, fun b hb => ?_⟩
  have gb : Grow F' H' n' F' (upd H' b (.lst vs)) n' := ⟨(Grow.laid g.pb hb .lst).keep, fun _ f => f, fun _ f => .inl f, g.pb.put (g.pb.out hb) .lst, Nat.le_refl _⟩
  have hab : a ≠ b := fun z => by rw [z, hb] at ha; cases ha
  refine ⟨a, b, ws, vs, rfl, rfl, (upd_ne hab).trans ha, upd_same, by rw [hl.len, hv.len]; exact hk2, fun q hq => ?_⟩
  obtain ⟨s2, g2⟩ := (s1.mono gb).own_new (k := k) hq ((hl.mono gb).app (hv.mono gb))
  exact eo.nx _ _ F' _ n' s2 (g.later.trans (gb.later.trans g2.later)) hk
/-! ### a, b, c = x, y, z -/
def dPar3 (i j l : Nat) (t : TD (List D)) : TDS := fun E ρ n => t ρ (fun ds n' => match ds with
  | [d, e, f] => E.nx (((ρ.set i (some (.d d))).set j (some (.d e))).set l (some (.d f))) n'
  | _ => False) (fun x n' => E.ex x ρ n') n
theorem DS.par3 {i j l : Nat} {x y z : Str} {a b c : Expr} {ta : TD (List D)} {px py pz pt pos : Pos} {kt k2 pt2} (hc : ∀ k, (X k).calm = true) (hN : ∀ k, (X k).N.Nodup) (hi : ∀ k, (X k).N[i]? = some x) (hj : ∀ k, (X k).N[j]? = some y) (hl : ∀ k, (X k).N[l]? = some z) (hij : i ≠ j) (hil : i ≠ l) (hjl : j ≠ l)
    (hx : ∀ k, (X k).env.scope.names.lookup x = some .local) (hy : ∀ k, (X k).env.scope.names.lookup y = some .local) (hz : ∀ k, (X k).env.scope.names.lookup z = some .local) (ha : DA X W [a, b, c] ta)
    (hw : ∀ k, swappedStores [.Tuple [.Name x px, .Name y py, .Name z pz] kt pt] (.Tuple [a, b, c] k2 pt2) (X k).env = pure (some [x, y, z]))
    (hs : ∀ k, swapsWithSole [.Tuple [.Name x px, .Name y py, .Name z pz] kt pt] (.Tuple [a, b, c] k2 pt2) pos.line (X k).env = pure false := by intro _; rfl) :
    DS X W (.Assign [.Tuple [.Name x px, .Name y py, .Name z pz] kt pt] (.Tuple [a, b, c] k2 pt2) pos) (dPar3 i j l ta) := by
  obtain ⟨tA, p, r⟩ := ha
  refine ⟨_, fun k => ps_par3 (hc k) (hN k) (hi k) (hj k) (hl k) hij hil hjl (hx k) (hy k) (hz k) (p k) (hw k) (hs k), fun B F H n σ ρ E Z s h eo => ?_⟩
  refine r F H n σ ρ _ _ _ s.hs h (fun vs ds F' H' n' g hv hk => ?_) fun cls od x F' H' n' g hx he => eo.ex cls od x σ ρ F' H' n' (s.mono g) g.later hx he
  match ds, hk with
  | [d, e, f], hk =>
    cases hv with
    | cons h1 hv =>
    cases hv with
    | cons h2 hv =>
    cases hv with
    | cons h3 hv =>
    cases hv
    exact ⟨_, _, _, rfl, eo.nx _ _ F' H' n' ((((s.mono g).set h1).set h2).set h3) g.later hk⟩
end
/-! ### a loop by a measure -/
theorem whileD_inv {c : TD Bool} {tb : TDS} {E : DEnds} (I : Nat → Env' → Nat → Prop) (hs : ∀ (m : Nat) (ρ : Env') (n : Nat) (E' : DEnds), I m ρ n → (∀ m' ρ n, m' < m → I m' ρ n → E'.nx ρ n ∧ E'.ct ρ n) → (∀ ρ n, E.nx ρ n → E'.bk ρ n) → E'.rt = E.rt → E'.ex = E.ex →
    onT c (fun b ρ' n' => if b = true then tb E' ρ' n' else E.nx ρ' n') E ρ n) : ∀ (m : Nat) (ρ : Env') (n : Nat), I m ρ n → ∀ k, m < k → whileD c tb k E ρ n := by
  intro m
  induction m using Nat.strongRecOn with
  | _ m ih =>
    intro ρ n hi k hk
    cases k with
    | zero => omega
    | succ k =>
      unfold whileD
      exact hs m ρ n { E with nx := fun ρ'' n'' => whileD c tb k E ρ'' n'', ct := fun ρ'' n'' => whileD c tb k E ρ'' n'', bk := E.nx } hi (fun m' ρ' n' hm hi' => ⟨ih m' hm ρ' n' hi' k (by omega), ih m' hm ρ' n' hi' k (by omega)⟩) (fun _ _ z => z) rfl rfl
theorem _root_.L2.Room.units65 {k : Nat} {A : Around} (r : Room k A) : A.units + 65 < cLine := by have := r.un; omega
end DL


set_option maxRecDepth 100000
set_option maxHeartbeats 2000000
/-! DL17: recursion's start, comprehensions as maps, rows of the new words. Own work. -/
namespace DL
open PySem PySem.Spec PyProof.Rows L2
theorem def_false {P : Program} {w : World} {K : PySem.W.Frag} {mg : Str → Option Value} {base : Heap} {x : Str} {st : Stmt} {ps : List Str} {k : Nat} {w' : List D → Wm D} (F : DefF K mg x st ps) (h : ∀ ds Kd Kx n, w' ds Kd Kx n → False) : DefG P w K mg base x ps k w' := by
  obtain ⟨f, fd, F, m, b⟩ := F.ex
  exact ⟨f, fd, ⟨fun vs H Q E hs => hs.1, fun A outer s H args us vs Q E _ _ _ _ _ hs => by
    obtain ⟨_, F0, n, ds, Kd, Kx, _, _, hw, _⟩ := hs
    exact (h _ _ _ _ hw).elim⟩, m, F.kp, b⟩
theorem DefG.mono {P : Program} {w : World} {K : PySem.W.Frag} {mg : Str → Option Value} {base : Heap} {x : Str} {ps : List Str} {j k : Nat} {w' : List D → Wm D} (h : DefG P w K mg base x ps j w') (hk : j ≤ k) : DefG P w K mg base x ps k w' := by
  obtain ⟨f, fd, F, m, q, b⟩ := h.ex
  exact ⟨f, fd, F.mono hk, m, q, b⟩
/-- the same def by a promise that asks more -/
theorem DefG.imp {P : Program} {w : World} {K : PySem.W.Frag} {mg : Str → Option Value} {base : Heap} {x : Str} {ps : List Str} {k : Nat} {w1 w2 : List D → Wm D} (h : DefG P w K mg base x ps k w1) (hi : ∀ ds Kd Kx n, w2 ds Kd Kx n → w1 ds Kd Kx n) : DefG P w K mg base x ps k w2 := by
  obtain ⟨f, fd, F, m, q, b⟩ := h.ex
  exact ⟨f, fd, F.imp fun vs H Q E ⟨a, F0, n, ds, Kd, Kx, pb, hv, hw, r⟩ => ⟨a, F0, n, ds, Kd, Kx, pb, hv, hi _ _ _ _ hw, r⟩, m, q, b⟩
/-- a comprehension that calls no pen -/
theorem lcD_map {g : TDG} {te : TD D} {f : D → D} {ρ : Env'} {n : Nat} {X : XD → Nat → Prop} : ∀ (ts acc : List D) (K : List D → Nat → Prop), acc.length + ts.length < sizeLine → (∀ t ∈ ts, ∃ ρ', g t ρ = some ρ' ∧ ∀ K : D → Nat → Prop, K (f t) n → te ρ' K XFalse n) → K (acc ++ ts.map f) n → lcD g (fun _ => pure true) te ts ρ acc K X n
  | [], acc, K, _, _, hk => by
    have hk : K (acc ++ []) n := hk
    rw [List.append_nil] at hk
    exact hk
  | t :: ts, acc, K, hl, h, hk => by
    obtain ⟨ρ', e, ht⟩ := h t List.mem_cons_self
    rw [List.length_cons] at hl
    unfold lcD
    rw [e]
    refine ht _ ⟨by omega, ?_⟩
    refine lcD_map ts (acc ++ [f t]) K (by simp; omega) (fun t' ht' => h t' (List.mem_cons_of_mem _ ht')) ?_
    rw [List.append_assoc]
    exact hk
/-- a loop, by what is left of the list -/
theorem forD_list {g : TDG} {tb : TDS} {E : DEnds} (I : List D → Env' → Nat → Prop) : ∀ (ds : List D) (ρ : Env') (n : Nat), I ds ρ n → (∀ ρ n, I [] ρ n → E.nx ρ n) →
    (∀ (d : D) (ds : List D) (ρ : Env') (n : Nat) (E' : DEnds), I (d :: ds) ρ n → (∀ ρ n, I ds ρ n → E'.nx ρ n) → (∀ ρ n, E.nx ρ n → E'.bk ρ n) → E'.rt = E.rt → E'.ex = E.ex → match g d ρ with | some ρ' => tb E' ρ' n | none => False) → forD g tb ds E ρ n
  | [], ρ, n, h, h0, _ => h0 ρ n h
  | d :: ds, ρ, n, h, h0, hs => by
    have z := hs d ds ρ n { E with nx := fun ρ'' n'' => forD g tb ds E ρ'' n'', ct := fun ρ'' n'' => forD g tb ds E ρ'' n'', bk := E.nx } h (fun ρ n hi => forD_list I ds ρ n hi h0 hs) (fun _ _ z => z) rfl rfl
    unfold forD
    exact z
/-- .. of a list of known items by their images -/
theorem forD_map {α : Type} {g : TDG} {tb : TDS} {E : DEnds} (f : α → D) (I : List α → Env' → Nat → Prop) : ∀ (xs : List α) (ρ : Env') (n : Nat), I xs ρ n → (∀ ρ n, I [] ρ n → E.nx ρ n) →
    (∀ (x : α) (xs : List α) (ρ : Env') (n : Nat) (E' : DEnds), I (x :: xs) ρ n → (∀ ρ n, I xs ρ n → E'.nx ρ n) → E'.rt = E.rt → E'.ex = E.ex → match g (f x) ρ with | some ρ' => tb E' ρ' n | none => False) → forD g tb (xs.map f) E ρ n
  | [], ρ, n, h, h0, _ => h0 ρ n h
  | x :: xs, ρ, n, h, h0, hs => by
    have z := hs x xs ρ n { E with nx := fun ρ'' n'' => forD g tb (xs.map f) E ρ'' n'', ct := fun ρ'' n'' => forD g tb (xs.map f) E ρ'' n'', bk := E.nx } h (fun ρ n hi => forD_map f I xs ρ n hi h0 hs) rfl rfl
    rw [List.map_cons]
    unfold forD
    exact z
theorem s_par3 {i j l : Nat} {t : TD (List D)} {E : DEnds} {ρ : Env'} {n : Nat} : dPar3 i j l t E ρ n = t ρ (fun ds n' => match ds with
  | [d, e, f] => E.nx (((ρ.set i (some (.d d))).set j (some (.d e))).set l (some (.d f))) n'
  | _ => False) (fun x n' => E.ex x ρ n') n := rfl
theorem fCut_lst {ds : List D} {lo hi : Option Int} {K : D → Nat → Prop} {X : XD → Nat → Prop} {n : Nat} : fCut (.lst ds) lo hi K X n = K (.lst (cutD ds lo hi)) n := rfl
theorem fCut_at {ds : List D} {lo hi : Option Int} {K : D → Nat → Prop} {X : XD → Nat → Prop} {n : Nat} : fCut (.tup ds) lo hi K X n = K (.tup (cutD ds lo hi)) n := rfl
theorem fAdd_lst {xs ys : List D} {K : D → Nat → Prop} {X : XD → Nat → Prop} {n : Nat} : fAdd (.lst xs) (.lst ys) K X n = (Fits (xs.length + ys.length) ∧ K (.lst (xs ++ ys)) n) := rfl
theorem fAdd_tup {xs ys : List D} {K : D → Nat → Prop} {X : XD → Nat → Prop} {n : Nat} : fAdd (.tup xs) (.tup ys) K X n = (Fits (xs.length + ys.length) ∧ K (.tup (xs ++ ys)) n) := rfl
theorem fList_lst {xs : List D} {K : D → Nat → Prop} {X : XD → Nat → Prop} {n : Nat} : fList [.lst xs] K X n = K (.lst xs) n := rfl
theorem fList_tup {xs : List D} {K : D → Nat → Prop} {X : XD → Nat → Prop} {n : Nat} : fList [.tup xs] K X n = K (.lst xs) n := rfl
theorem fTuple_lst {xs : List D} {K : D → Nat → Prop} {X : XD → Nat → Prop} {n : Nat} : fTuple [.lst xs] K X n = K (.tup xs) n := rfl
theorem fMul_lst {xs : List D} {k : Int} {K : D → Nat → Prop} {X : XD → Nat → Prop} {n : Nat} : fMul (.lst xs) (.int k) K X n = ((-(2 ^ 63) ≤ k ∧ k < 2 ^ 63 ∧ Fits (xs.length * k.toNat)) ∧ K (.lst (List.replicate k.toNat xs).flatten) n) := rfl
theorem items_lst {xs : List D} {K : List D → Nat → Prop} {X : XD → Nat → Prop} {n : Nat} : itemsOf (.lst xs) K X n = K xs n := rfl
theorem items_tup {xs : List D} {K : List D → Nat → Prop} {X : XD → Nat → Prop} {n : Nat} : itemsOf (.tup xs) K X n = K xs n := rfl
theorem range2_at {i j : Int} {K : List D → Nat → Prop} {X : XD → Nat → Prop} {n : Nat} : rangeOf2 [.int i, .int j] K X n = ((Small62 i ∧ Small62 j) ∧ K (rangeD i (j - i).toNat) n) := rfl
theorem zip_at {xs ys : List D} {K : List D → Nat → Prop} {X : XD → Nat → Prop} {n : Nat} : zipOf [.lst xs, .lst ys] K X n = K ((xs.zip ys).map fun p => .tup [p.1, p.2]) n := rfl
theorem fIx_t {ds : List D} {i : Int} {d : D} {K : D → Nat → Prop} {X : XD → Nat → Prop} {n : Nat} (e : atI ds i = some d) : fIx (.tup ds) (.int i) K X n = K d n := by
  show (match atI ds i with
    | some d => (pure d : Wm D)
    | none => Wm.fail) K X n = _
  rw [e]
  rfl
theorem fIx_l {ds : List D} {i : Int} {d : D} {K : D → Nat → Prop} {X : XD → Nat → Prop} {n : Nat} (e : atI ds i = some d) : fIx (.lst ds) (.int i) K X n = K d n := by
  show (match atI ds i with
    | some d => (pure d : Wm D)
    | none => Wm.fail) K X n = _
  rw [e]
  rfl
theorem g_tup2 {i j : Nat} {d e : D} {ρ : Env'} : dgTup 2 (dgCons (dName i) (dgCons (dName j) dgNil)) (.tup [d, e]) ρ = some ((ρ.set i (some (.d d))).set j (some (.d e))) := rfl
theorem g_tup3 {i j l : Nat} {d e f : D} {ρ : Env'} : dgTup 3 (dgCons (dName i) (dgCons (dName j) (dgCons (dName l) dgNil))) (.tup [d, e, f]) ρ = some (((ρ.set i (some (.d d))).set j (some (.d e))).set l (some (.d f))) := rfl
theorem fNotN_at {d : D} {K : D → Nat → Prop} {X : XD → Nat → Prop} {n : Nat} : fNotN d .non K X n = K (.bl (!nonB d)) n := rfl
theorem fIsN_at {d : D} {K : D → Nat → Prop} {X : XD → Nat → Prop} {n : Nat} : fIsN d .non K X n = K (.bl (nonB d)) n := rfl
theorem s_lc {ti : TD (List D)} {g : TDG} {tt : TD Bool} {te : TD D} {vs : List Nat} {ρ : Env'} {K : D → Nat → Prop} {X : XD → Nat → Prop} {n : Nat} : dLc ti g tt te vs ρ K X n = ti ρ (fun ds n' => lcD g tt te ds (wipeD ρ vs) [] (fun ys n'' => K (.lst ys) n'') X n') X n := rfl
theorem cut_last {ds : List D} {d : D} : cutD (ds ++ [d]) none (some (-1)) = ds := by
  unfold cutD
  have e1 : HT.sIx (ds ++ [d]).length 0 none = 0 := rfl
  have e2 : HT.sIx (ds ++ [d]).length (ds ++ [d]).length (some (-1)) = ds.length := by
    show (if (-1 : Int) < 0 then ((-1 : Int) + ((ds ++ [d]).length : Int)).toNat else min (-1 : Int).toNat (ds ++ [d]).length) = _
    rw [if_pos (by decide), List.length_append]
    simp
    omega
  rw [e1, e2, List.drop_zero, Nat.sub_zero, List.take_left]
theorem cut_tail {d : D} {ds : List D} : cutD (d :: ds) (some 1) none = ds := by
  unfold cutD
  have e : HT.sIx (d :: ds).length 0 (some 1) = 1 := by unfold HT.sIx; simp
  have e2 : HT.sIx (d :: ds).length (d :: ds).length none = ds.length + 1 := by unfold HT.sIx; rfl
  rw [e, e2]
  simp
theorem cut_head {ds : List D} {k : Nat} (h : k ≤ ds.length) : cutD ds none (some (k : Int)) = ds.take k := by
  unfold cutD
  have e1 : HT.sIx ds.length 0 none = 0 := rfl
  rw [e1, HT.sIx_nat, List.drop_zero, Nat.sub_zero, Nat.min_eq_left h]
theorem atI_last {ds : List D} {d : D} : atI (ds ++ [d]) (-1) = some d := by
  unfold L2.atI L2.ixN
  rw [List.length_append]
  simp
  rw [if_pos (by omega)]
  have e : (-1 + ((ds.length : Int) + 1)).toNat = ds.length := by omega
  rw [e]
  simp
theorem fIx_last {ds : List D} {d : D} {K : D → Nat → Prop} {X : XD → Nat → Prop} {n : Nat} : fIx (.tup (ds ++ [d])) (.int (-1)) K X n = K d n := fIx_t atI_last
theorem lsub {l : Nat} : ((l + 1 : Nat) : Int) - 1 = (l : Int) := by omega
theorem atI_of {ds : List D} {k : Nat} {d : D} (h : ds[k]? = some d) : atI ds (k : Int) = some d := by
  have hk : k < ds.length := (List.getElem?_eq_some_iff.mp h).1
  unfold L2.atI L2.ixN
  simp
  rw [if_pos (by omega)]
  simpa using h
theorem bools_map : ∀ bs : List Bool, boolsOf (bs.map D.bl) = some bs
  | [] => rfl
  | b :: bs => by
    show (boolOf (.bl b)).bind (fun c => (boolsOf (bs.map D.bl)).map (c :: ·)) = _
    rw [bools_map bs]
    rfl
theorem fAll_bools {bs : List Bool} {K : D → Nat → Prop} {X : XD → Nat → Prop} {n : Nat} : fAll (fun bs => bs.all id) [D.lst (bs.map D.bl)] K X n = K (.bl (bs.all id)) n := by
  show (match boolsOf (bs.map D.bl) with
    | some bs => (pure (.bl (bs.all id)) : Wm D)
    | none => Wm.fail) K X n = _
  rw [bools_map]
  rfl
/-- of data of bounded depth, without dicts, objects, .. -/
def okDp : Nat → D → Bool
  | 0, _ => false
  | j + 1, d => match d with
    | .tup ds => decide (ds.length ≤ 1000) && ds.all (okDp j)
    | .lst ds => decide (ds.length ≤ 1000) && ds.all (okDp j)
    | .non => true
    | .bl _ => true
    | .int _ => true
    | .str _ => true
    | _ => false
mutual
/-- lists are tuples -/
def tupled : D → D
  | .tup ds => .tup (tupledL ds)
  | .lst ds => .tup (tupledL ds)
  | .non => .non
  | .bl b => .bl b
  | .int i => .int i
  | .str x => .str x
  | .dic ks ds => .dic ks ds
  | .obj C ns ds => .obj C ns ds
  | .exc C ns ds => .exc C ns ds
  | .pen => .pen
  | .clo b r ds => .clo b r ds
  | .fnA a => .fnA a
  | .scr K ns t => .scr K ns t
def tupledL : List D → List D
  | [] => []
  | d :: ds => tupled d :: tupledL ds
end
mutual
/-- tuples are lists -/
def listed : D → D
  | .tup ds => .lst (listedL ds)
  | .lst ds => .lst ds
  | .non => .non
  | .bl b => .bl b
  | .int i => .int i
  | .str x => .str x
  | .dic ks ds => .dic ks ds
  | .obj C ns ds => .obj C ns ds
  | .exc C ns ds => .exc C ns ds
  | .pen => .pen
  | .clo b r ds => .clo b r ds
  | .fnA a => .fnA a
  | .scr K ns t => .scr K ns t
def listedL : List D → List D
  | [] => []
  | d :: ds => listed d :: listedL ds
end
theorem tupledL_map : ∀ ds : List D, tupledL ds = ds.map tupled
  | [] => by unfold tupledL; rfl
  | d :: ds => by unfold tupledL; rw [tupledL_map ds]; rfl
theorem listedL_map : ∀ ds : List D, listedL ds = ds.map listed
  | [] => by unfold listedL; rfl
  | d :: ds => by unfold listedL; rw [listedL_map ds]; rfl
theorem s_pop {k : Nat} {g : TDG} {E : DEnds} {ρ : Env'} {n : Nat} {ds : List D} {d : D} (e : ρ[k]? = some (some (.ml (ds ++ [d])))) : dPop k g E ρ n = match g d (ρ.set k (some (.ml ds))) with | some ρ' => E.nx ρ' n | none => False := by
  unfold dPop
  rw [e]
  (simp only [List.getLast?_concat, List.dropLast_concat]) <;> rfl
theorem s_ownCat {k : Nat} {t : TD (List D)} {E : DEnds} {ρ : Env'} {n : Nat} : dOwnCat k t E ρ n = t ρ (fun es n' => match ρ[k]? with
  | some (some (.ml ds)) => (Fits es.length ∧ Fits (ds.length + es.length)) ∧ E.nx (ρ.set k (some (.ml (ds ++ es)))) n'
  | _ => False) (fun x n' => E.ex x ρ n') n := rfl
theorem okDp_tup {j : Nat} {ds : List D} (h : okDp (j + 1) (.tup ds) = true) : ds.length ≤ 1000 ∧ ∀ d ∈ ds, okDp j d = true := by
  have h : (decide (ds.length ≤ 1000) && ds.all (okDp j)) = true := h
  rw [Bool.and_eq_true] at h
  exact ⟨of_decide_eq_true h.1, List.all_eq_true.mp h.2⟩
theorem okDp_lst {j : Nat} {ds : List D} (h : okDp (j + 1) (.lst ds) = true) : ds.length ≤ 1000 ∧ ∀ d ∈ ds, okDp j d = true := by
  have h : (decide (ds.length ≤ 1000) && ds.all (okDp j)) = true := h
  rw [Bool.and_eq_true] at h
  exact ⟨of_decide_eq_true h.1, List.all_eq_true.mp h.2⟩
theorem baseL_of : ∀ {ds : List D}, (∀ d ∈ ds, baseD d = true) → baseL ds = true
  | [], _ => by unfold baseL; rfl
  | d :: ds, h => by
    unfold baseL
    rw [h d List.mem_cons_self, baseL_of fun e he => h e (List.mem_cons_of_mem _ he)]
    rfl
theorem okDp_base : ∀ {j : Nat} {d : D}, okDp j d = true → baseD d = true
  | 0, _, h => by cases h
  | j + 1, d, h => by
    cases d with
    | tup ds => unfold baseD; exact baseL_of fun d hd => okDp_base ((okDp_tup h).2 d hd)
    | lst ds => unfold baseD; exact baseL_of fun d hd => okDp_base ((okDp_lst h).2 d hd)
    | non => rfl
    | bl b => rfl
    | int i => rfl
    | str x => rfl
    | _ => cases h
theorem okDp_succ : ∀ {j : Nat} {d : D}, okDp j d = true → okDp (j + 1) d = true
  | 0, _, h => by cases h
  | j + 1, d, h => by
    cases d with
    | tup ds =>
      obtain ⟨h1, h2⟩ := okDp_tup h
      show (decide (ds.length ≤ 1000) && ds.all (okDp (j + 1))) = true
      rw [decide_eq_true h1, Bool.true_and, List.all_eq_true]
      exact fun d hd => okDp_succ (h2 d hd)
    | lst ds =>
      obtain ⟨h1, h2⟩ := okDp_lst h
      show (decide (ds.length ≤ 1000) && ds.all (okDp (j + 1))) = true
      rw [decide_eq_true h1, Bool.true_and, List.all_eq_true]
      exact fun d hd => okDp_succ (h2 d hd)
    | non => rfl
    | bl b => rfl
    | int i => rfl
    | str x => rfl
    | _ => cases h
theorem okDp_tupled : ∀ {j : Nat} {d : D}, okDp j d = true → okDp j (tupled d) = true
  | 0, _, h => by cases h
  | j + 1, d, h => by
    have key : ∀ ds : List D, ds.length ≤ 1000 → (∀ d ∈ ds, okDp j d = true) → okDp (j + 1) (.tup (tupledL ds)) = true := fun ds h1 h2 => by
      show (decide ((tupledL ds).length ≤ 1000) && (tupledL ds).all (okDp j)) = true
      rw [tupledL_map, List.length_map, decide_eq_true h1, Bool.true_and, List.all_eq_true]
      intro d hd
      obtain ⟨e, he, rfl⟩ := List.mem_map.mp hd
      exact okDp_tupled (h2 e he)
    cases d with
    | tup ds => obtain ⟨h1, h2⟩ := okDp_tup h; exact key ds h1 h2
    | lst ds => obtain ⟨h1, h2⟩ := okDp_lst h; exact key ds h1 h2
    | non => rfl
    | bl b => rfl
    | int i => rfl
    | str x => rfl
    | _ => cases h
theorem okDp_item {j : Nat} {ds : List D} {d : D} (h : okDp j (.tup ds) = true) (hd : d ∈ ds) : okDp j d = true := by
  cases j with
  | zero => cases h
  | succ j => exact okDp_succ ((okDp_tup h).2 d hd)
theorem isi_tupled {Kf : PySem.W.Frag} {d : D} {j : Nat} {K : D → Nat → Prop} {X : XD → Nat → Prop} {n : Nat} (h : okDp j d = true) : fIsi1 Kf (.type "tuple") (tupled d) K X n = K (.bl (tupB (tupled d))) n := isi_tuple (okDp_base (okDp_tupled h))
/-- a loop over a range, by its index -/
theorem forD_range {g : TDG} {tb : TDS} {E : DEnds} (I : Nat → Env' → Nat → Prop) (L : Nat) (ρ : Env') (n : Nat) (h : I 0 ρ n) (h0 : ∀ ρ n, I L ρ n → E.nx ρ n)
    (hs : ∀ (i : Nat) (ρ : Env') (n : Nat) (E' : DEnds), i < L → I i ρ n → (∀ ρ n, I (i + 1) ρ n → E'.nx ρ n) → E'.rt = E.rt → E'.ex = E.ex → match g (.int (i : Int)) ρ with | some ρ' => tb E' ρ' n | none => False) : forD g tb (rangeD 0 L) E ρ n := by
  unfold rangeD
  have e : (List.range L).map (fun j : Nat => D.int (0 + (j : Int))) = (List.range' 0 L).map fun j : Nat => D.int (j : Int) := by
    rw [List.range_eq_range']
    simp
  rw [e]
  refine forD_map (fun j : Nat => D.int (j : Int)) (fun rem ρ n => ∃ i, i ≤ L ∧ rem = List.range' i (L - i) ∧ I i ρ n) _ _ _ ⟨0, Nat.zero_le _, by rw [Nat.sub_zero], h⟩ (fun ρ n hi => ?_) (fun x xs ρ n E' hi hnx hrt hex => ?_)
  · obtain ⟨i, hi, e, h⟩ := hi
    have : i = L := by
      have := congrArg List.length e
      simp at this
      omega
    subst this
    exact h0 ρ n h
  · obtain ⟨i, hi, e, h⟩ := hi
    have hlt : i < L := by
      rcases Nat.lt_or_ge i L with h | h
      · exact h
      · rw [show L - i = 0 by omega] at e
        simp at e
    rw [show L - i = (L - (i + 1)) + 1 by omega, List.range'_succ] at e
    obtain ⟨e1, e2⟩ := List.cons.inj e
    subst e1
    exact hs x ρ n E' hlt h (fun ρ n hi => hnx ρ n ⟨x + 1, hlt, e2, hi⟩) hrt hex
theorem own_intro {k : Nat} {t : TD (List D)} {E : DEnds} {ρ : Env'} {n : Nat} (h : t ρ (fun ds n' => Fits ds.length ∧ E.nx (ρ.set k (some (.ml ds))) n') (fun x n' => E.ex x ρ n') n) : dOwn k t E ρ n := h
theorem app_intro {k : Nat} {t : TD D} {E : DEnds} {ρ : Env'} {n : Nat} {ds : List D} (e : ρ[k]? = some (some (.ml ds))) (h : t ρ (fun d n' => ds.length < sizeLine ∧ E.nx (ρ.set k (some (.ml (ds ++ [d])))) n') (fun x n' => E.ex x ρ n') n) : dAppend k t E ρ n := by
  unfold dAppend
  rw [e]
  exact h
theorem frz_intro {k : Nat} {t : TDS} {E : DEnds} {ρ : Env'} {n : Nat} {ds : List D} (e : ρ[k]? = some (some (.ml ds))) (h : t E (ρ.set k (some (.d (.lst ds)))) n) : dFreeze k t E ρ n := by
  unfold dFreeze
  rw [e]
  exact h
end DL


set_option maxRecDepth 100000
set_option maxHeartbeats 2000000
/-! DL18: defs as values, written pairs in a for. Own work. -/
namespace DL
open PySem PySem.Spec PyProof.Rows L2
section
variable {ι : Type} {X : ι → Cx} {W : WX}
/-- the name of a def, as a value -/
theorem DE.fnv {x : Str} {f : Addr} {pos : Pos} (hg : ∀ j, Gl (X j) x) (hm : ∀ j, (X j).mg x = some (.ref f)) (hd : (x == ("__debug__" : Str)) = false := by decide) : DE X W (.Name x pos) (fun _ => pure (.fnA f)) :=
  .const (fun j => pe_glob (v := .ref f) (hg j) (hm j) rfl hd) fun _ _ => .fnA f
end
/-- a lambda that captures nothing is a value as it lies -/
theorem Has.bare {F : Addr → Prop} {H : Hp} {v : V} {r : CloR} (e : r.cl = []) : Has F H v (.clo false r []) → Has F H v (.clo true r [])
  | .clo0 f h fc hc => .clo1 (vs := []) f h fc hc (by rw [e]; rfl) (by rw [e]; intro p hp; cases hp) .nil
end DL


set_option maxRecDepth 100000
set_option maxHeartbeats 2000000
/-! DL19: functions as values: captured, called with arguments. Own work over HandS (clo_okB, DE.tellB: as in DL8, DL9, for captured functions). -/
namespace DL
open PySem PySem.Spec PyProof.Rows L2

/-- plain, or a lambda that captures nothing -/
def bareB : D → Bool
  | .clo _ r ds => r.cl.isEmpty && ds.isEmpty
  | d => plainD d
theorem bare_plain : ∀ {d : D}, plainD d = true → bareB d = true := fun {d} h => by cases d <;> first | exact h | (unfold plainD at h; cases h)
section
variable {l : List Addr} {F F' : Addr → Prop} {H H' f : Hp} {n n' : Nat}
theorem Has.cutB {P : Program} {w : World} {h : Heap} (fx : Fixed l H) (ok : HOk P w H h) (hl : ∀ c ∈ l, ∃ o u, H c = some (FixO c o) ∧ o.data = .cell (some u)) {v : V} {d : D} (hv : Has F H v d) (e : bareB d = true) : Has (cutF l F) (DL.cut l H) v d := by
  have fo : ∀ {a : Addr} {r : CloR}, H a = some (FixO a r.obj) → a ∉ l := fun {a r} e1 z => by
    obtain ⟨o, u, e2, e3⟩ := hl a z
    have x1 := fixO_at ok e1
    have x2 := fixO_at ok e2
    rw [x1] at x2
    cases x2
    cases e3
  cases d with
  | clo b r ds =>
    have e' : (r.cl.isEmpty && ds.isEmpty) = true := e
    rw [Bool.and_eq_true, List.isEmpty_iff, List.isEmpty_iff] at e'
    obtain ⟨ec, rfl⟩ := e'
    cases hv with
    | clo0 Fa ha Fc hc => exact .clo0 ⟨Fa, fo ha⟩ ((cut_out (fo ha)).trans ha) ⟨Fc, cod_out ok hl hc⟩ ((cut_out (cod_out ok hl hc)).trans hc)
    | @clo1 _ _ vs _ Fa ha Fc hc hn hs hd =>
      have ev : vs = [] := by rw [ec] at hn; exact List.eq_nil_of_length_eq_zero hn
      subst ev
      exact .clo1 ⟨Fa, fo ha⟩ ((cut_out (fo ha)).trans ha) ⟨Fc, cod_out ok hl hc⟩ ((cut_out (cod_out ok hl hc)).trans hc) hn (by rw [ec]; intro p hp; cases hp) .nil
  | _ => exact hv.cut fx e
theorem HasL.cutB {P : Program} {w : World} {h : Heap} (fx : Fixed l H) (ok : HOk P w H h) (hl : ∀ c ∈ l, ∃ o u, H c = some (FixO c o) ∧ o.data = .cell (some u)) : ∀ {vs : List V} {ds : List D}, HasL F H vs ds → ds.all bareB = true → HasL (cutF l F) (DL.cut l H) vs ds
  | _, _, .nil, _ => .nil
  | _, _, .cons hv k, e => by
    rw [List.all_cons, Bool.and_eq_true] at e
    exact .cons (Has.cutB fx ok hl hv e.1) (HasL.cutB fx ok hl k e.2)
theorem Has.layB (hn : ∀ c ∈ l, H c = none) {v : V} {d : D} (hv : Has F H v d) (e : bareB d = true) : Has (layF l F) (DL.lay l f H) v d := by
  have off : ∀ {a : Addr} {u : HO}, H a = some u → a ∉ l := fun q z => by rw [hn _ z] at q; cases q
  cases d with
  | clo b r ds =>
    have e' : (r.cl.isEmpty && ds.isEmpty) = true := e
    rw [Bool.and_eq_true, List.isEmpty_iff, List.isEmpty_iff] at e'
    obtain ⟨ec, rfl⟩ := e'
    cases hv with
    | clo0 Fa ha Fc hc => exact .clo0 (.inl Fa) ((lay_out (off ha)).trans ha) (.inl Fc) ((lay_out (off hc)).trans hc)
    | @clo1 _ _ vs _ Fa ha Fc hc hl hs hd =>
      have ev : vs = [] := by rw [ec] at hl; exact List.eq_nil_of_length_eq_zero hl
      subst ev
      exact .clo1 (.inl Fa) ((lay_out (off ha)).trans ha) (.inl Fc) ((lay_out (off hc)).trans hc) hl (by rw [ec]; intro p hp; cases hp) .nil
  | _ => exact hv.lay hn e
end

/-! ### a lambda with parameters, that captures nothing -/
/-- what such a lambda's scope must be -/
structure CloScopeP (N : List Str) (r : CloR) : Prop where
  kind : r.scope.kind = .function
  co : r.scope.isCoroutine = false
  gen : r.scope.isGenerator = false
  own : ∀ y ∈ r.scope.names, y.2 ≠ .cell ∧ y.2 ≠ .free
  cl : r.cl = []
  nodup : N.Nodup
  par : ∀ x ∈ N, r.scope.names.lookup x = some .local
  bind : ∀ us : List Value, us.length = N.length → bindArgs (PySem.W.kla_fn "<lambda>" r.qual r.params r.body r.scope r.cl r.pm (.ref r.code) r.ctv) ⟨us, []⟩ = pure (N.zip us)
theorem lookup_mem_nodup {α : Type} {l : List (Str × α)} (nd : (l.map (·.1)).Nodup) : ∀ {y : Str} {c : α}, (y, c) ∈ l → l.lookup y = some c := by
  induction l with
  | nil => intro y c e; cases e
  | cons p l ih =>
    obtain ⟨z, d⟩ := p
    intro y c e
    rw [List.map_cons, List.nodup_cons] at nd
    rcases List.mem_cons.mp e with e | e
    · cases e
      simp [List.lookup]
    · have hy : y ∈ l.map (·.1) := List.mem_map.mpr ⟨_, e, rfl⟩
      have hne : y ≠ z := fun h => nd.1 (h ▸ hy)
      have hb : (y == z) = false := by simpa using hne
      simp only [List.lookup, hb]
      exact ih nd.2 e
theorem lookup_zip_rev {N : List Str} {us : List Value} (nd : N.Nodup) (hl : us.length = N.length) {i : Nat} {y : Str} {u : Value} (h1 : N[i]? = some y) (h2 : us[i]? = some u) : (N.zip us).reverse.lookup y = some u := by
  refine lookup_mem_nodup ?_ ?_
  · rw [List.map_reverse, List.map_fst_zip (by omega)]
    exact List.pairwise_reverse.mpr (nd.imp fun h => Ne.symm h)
  · rw [List.mem_reverse]
    exact List.mem_of_getElem? (i := i) (by rw [List.getElem?_zip_eq_some]; exact ⟨h1, h2⟩)
section
variable {P : Program} {w : World} {K : PySem.W.Frag} {mg : Str → Option Value} {base : Heap} {N : List Str} {r : CloR} {A : Around} {outer : List Env} {s : Shared} {H : Hp} {E : XK} {f : Addr} {vs : List V} {us : List Value}
theorem cloP_start (S : CloScopeP N r) (e0 : Env0 P w K mg base A outer s H) (hd : A.handled = none) (hl : us.length = N.length) (rv : Vals vs us)
    {h₁ : Heap} {tk : Nat} (hns : h₁.Ns s.heap.objs.size fun y => (N.zip us).reverse.lookup y) (kp : ∀ b o, s.heap.get? b = some o → h₁.get? b = some o) :
    Inv (cloCx P w K mg base N r A outer s H E f) [] (vs.map some) H { s with heap := h₁, toks := tk } := by
  have noA : ∀ b : Addr, b ∉ (cloCx P w K mg base N r A outer s H E f).ex := fun b z => absurd (show b ∈ ([] : List Addr) from z) (by simp)
  have nol : ∀ {y : Str} {c : Addr}, r.cl.lookup y = some c → False := fun {y c} e => by rw [S.cl] at e; cases e
  refine ⟨⟨e0.mod, S.kind, rfl, rfl, Nat.le_refl _, fun x y c e _ => (nol e).elim, fun y hy => ?_, fun y c z _ => ?_, fun _ => hd, Around.frames_deeper e0.frames, .inr ⟨rfl, rfl⟩, fun b z => absurd z (noA b), e0.bs, e0.bsz, fun b _ _ => noA b,
      fun b z => absurd z (noA b), e0.funs, e0.frf⟩,
    rfl, e0.bare, Un.kept kp, ⟨_, hns, fun i y v e1 e2 e3 => ?_⟩, fun y c e => (nol e).elim, e0.hok.fresh (Nat.le_refl _), fun y c e => (nol e).elim, fun q hq => absurd (show q ∈ ([] : List (Addr × Obj)) ++ [] from hq) (by simp), e0.hok.kept kp, ?_⟩
  · have hy : r.scope.names.lookup y = some .cell ∨ r.scope.names.lookup y = some .free := hy
    rcases hy with hy | hy
    · exact absurd rfl (S.own _ (PySem.mem_of_lookup hy)).1
    · exact absurd rfl (S.own _ (PySem.mem_of_lookup hy)).2
  · have z : false = true := z
    cases z
  · rw [List.getElem?_map] at e2
    obtain ⟨v', e4, e5⟩ := Option.map_eq_some_iff.mp e2
    cases e5
    obtain ⟨u, hu, ru⟩ := rv.get e4
    have hN : y ∈ N := List.mem_of_getElem? e1
    exact ⟨u, ru, .inl ⟨S.par y hN, lookup_zip_rev S.nodup hl e1 hu⟩⟩
  · show (vs.map some).length = N.length
    rw [List.length_map, rv.length, hl]
end
/-- what a lambda with parameters promises -/
def CloSpN (P : Program) (w : World) (K : PySem.W.Frag) (mg : Str → Option Value) (base : Heap) (k : Nat) (r : CloR) (m : List D → Wm D) : Prop :=
  ∀ (A : Around) (outer : List Env) (s : Shared) (H : Hp) (F : Addr → Prop) (n : Nat) (f : Addr) (us : List Value) (vs : List V) (ds : List D) (Kd : D → Nat → Prop) (Xd : XD → Nat → Prop) (Q : VK) (E : XK), A.guards = some [] → Room k A → Env0 P w K mg base A outer s H → PenB F H n → H f = some (FixO f r.obj) → H r.code = some (CodO r.code r.qual) → Vals vs us → HasL F H vs ds → m ds Kd Xd n →
    (∀ v d F' H' n', Grow F H n F' H' n' → Has F' H' v d → Kd d n' → Q v H') → (∀ cls od xd F' H' n', Grow F H n F' H' n' → HasX F' H' cls od xd → Xd xd n' → E cls od H') → codeAny (model P w) A (.call (.ref f) ⟨us, []⟩) (CR (L2.CX P w) outer P w H s Q E) s
theorem cloP_ok {P : Program} {w : World} {K : PySem.W.Frag} {mg : Str → Option Value} {base : Heap} {N : List Str} {r : CloR} {k : Nat} {t : TD D} (S : CloScopeP N r)
    (hbody : ∀ (A : Around) (outer : List Env) (s : Shared) (H : Hp) (E : XK) (f : Addr), A.guards = some [] → Room k (A.deeper (cloEnv r s.heap.objs.size f)) → DE (fun _ : Unit => cloCx P w K mg base N r A outer s H E f) (bW E) r.body t) :
    CloSpN P w K mg base (k + 1) r (fun ds Kd Xd n => ds.length = N.length ∧ t (ds.map fun d => some (.d d)) Kd Xd n) := by
  intro A outer s H F n f us vs ds Kd Xd Q E hg hr e0 pb hf hco rv hds ⟨hln, hm⟩ hq hx
  have hof : s.heap.get? f = some r.obj := fixO_at e0.hok hf
  have hcode : s.heap.CodeRec (.ref r.code) r.qual := by
    have x : ObjOk P w H s.heap r.code (.ext fun h => ∃ (oc : Obj) (vs : Array Value) (t : Tok), h.get? r.code = some oc ∧ oc.data = .fields vs ∧ vs[1]? = some (.str r.qual t)) := e0.hok _ _ hco
    obtain ⟨⟨oc, vs, t, a, b, c⟩, _⟩ := x
    exact ⟨r.code, oc, vs, t, rfl, a, b, c⟩
  have hul : us.length = N.length := by rw [← rv.length, hds.len, hln]
  refine PySem.W.kla_callFunE hr.depth hof rfl S.co S.gen rfl hcode ?_
  rw [S.bind us hul]
  refine wpAny_pure (wpAny_newFunctionEnv (fun y hy => (S.own y hy).1) (fun y hy => S.par y.1 (List.of_mem_zip hy).1) (fun h₁ hns hsb => ⟨(e0.mod.nolimit.keeps fun b o e => (e0.bs b o e).1).fresh _ hsb, ?_⟩) S.kind)
  show codeAny _ _ (.expr r.body (cloEnv r s.heap.objs.size f)) _ _
  have kp : ∀ b o, s.heap.get? b = some o → h₁.get? b = some o := fun b o e => hsb.extBut b o (Nat.ne_of_lt (Heap.lt_size e)) (Heap.get?_push_of_some _ e)
  have J : Inv (cloCx P w K mg base N r A outer s H E f) [] (vs.map some) H { s with heap := h₁, toks := s.toks + (N.zip us).length } := cloP_start S e0 hr.hd hul rv hns kp
  obtain ⟨te, pe, re⟩ := hbody A outer s H E f hg (hr.deeper _)
  have hps : HasS F H n (vs.map some) (ds.map fun d => some (.d d)) := ⟨pb, by rw [List.length_map, List.length_map, hds.len], fun i x e => by
    rw [List.getElem?_map] at e
    obtain ⟨d, e1, e2⟩ := Option.map_eq_some_iff.mp e
    cases e2
    obtain ⟨v, e3, hv⟩ := hds.get e1
    exact ⟨v, by rw [List.getElem?_map, e3]; rfl, hv⟩⟩
  have ht : te (vs.map some) H (fun v H' => ∃ d F' n', Grow F H n F' H' n' ∧ Has F' H' v d ∧ Kd d n') := re _ _ n _ _ Kd Xd _ hps hm (fun v d F' H' n' g hv hk => ⟨d, F', n', g, hv, hk⟩) fun cls od xd F' H' n' g hx' hk => hx cls od xd F' H' n' g hx' hk
  refine PySem.W.kla_codeExpr (wpAny_mono ((pe ()).run [] _ _ H _ J ht) (fun v s' hq' => ?_) fun e s' z => wpAny_mono (show wpAny _ _ _ _ _ _ from z) (fun _ s'' z => z) fun _ s'' z => z)
  obtain ⟨v', H', J', rv', d, F', n', g, hv, hk⟩ := hq'
  exact ⟨v', H', J'.os, J'.bare, J'.base, J'.hok, rv', hq v' d F' H' n' g hv hk⟩

/-! ### work(x, y) -/
/-- a function may be called -/
def keepD (K : PySem.W.Frag) : D → Prop
  | .fnA a => PySem.W.keepIn K (.ref a) = true
  | .clo _ _ _ => True
  | _ => False
def actW (P : Program) (w : World) (K : PySem.W.Frag) (mg : Str → Option Value) (base : Heap) (k : Nat) : D → List D → Wm D
  | .fnA a => fun ds Kd Xd n => ∃ (fd : FuncData) (ps : List Str) (w' : List D → Wm D), FnG P w K mg base k a fd ps (spD ds.length w') ∧ Binds K fd ps [] ∧ w' ds Kd Xd n
  | .clo _ r _ => fun ds Kd Xd n => ∃ m : List D → Wm D, CloSpN P w K mg base k r m ∧ m ds Kd Xd n
  | _ => fun _ => Wm.fail
/-- it stands where it may be called -/
def CallOk (K : PySem.W.Frag) (f : Addr) (H : Hp) : Prop := PySem.W.keepIn K (.ref f) = true ∨ ∃ r : CloR, H f = some (FixO f r.obj)
section
variable {ι : Type} {X : ι → Cx} {W : WX} {P : Program} {w : World} {K : PySem.W.Frag} {mg : Str → Option Value} {base : Heap}
theorem DE.actN {x : Str} {i k : Nat} {p1 p2 : Pos} {e : Expr} {es : List Expr} {t : TD (List D)} (hP : ∀ j, (X j).prog = P ∧ (X j).w = w ∧ (X j).K = K ∧ (X j).mg = mg ∧ (X j).base = base) (hgd : ∀ j, (X j).A.guards = some []) (hr : ∀ j, Room k (X j).A) (tk : ∀ j, Takes (X j) W) (hv : ∀ j, PE (X j) (.Name x p1) (tVar i)) (h : DA X W (e :: es) t)
    (he : plainE e = true := by rfl) (hpl : ∀ j, (backTo p2 (starEach es (X j).env)).any (·.1) = false := by intro _; rfl) :
    DE X W (.Call (.Name x p1) (e :: es) [] p2) (fun ρ => do let d ← getD i ρ; Wm.need (keepD K d); let ds ← t ρ; actW P w K mg base k d ds) := by
  obtain ⟨ta, pa, ra⟩ := h
  refine ⟨fun σ H Q => ∃ f : Addr, σ[i]? = some (some (.ref f)) ∧ CallOk K f H ∧ ta σ H fun vs H1 => (∀ r : CloR, H f = some (FixO f r.obj) → H1 f = some (FixO f r.obj)) ∧ ∀ (A : Around) (outer : List Env) (s : Shared) (us : List Value), A.guards = some [] → Room k A → Env0 P w K mg base A outer s H1 → Vals vs us → codeAny (model P w) A (.call (.ref f) ⟨us, []⟩) (CR (L2.CX P w) outer P w H1 s Q (WE W σ)) s, fun j => ⟨fun pins s σ H Q I h => ?_⟩, fun F H n σ ρ Kd Kx Q hs ht hq hx => ?_⟩
  · obtain ⟨f, h0, hok, hc⟩ := h
    obtain ⟨eP, ew, eK, em, eb⟩ := hP j
    subst eP ew eK em eb
    refine wpAny_Call_Name_kw (thn ((hv j).run pins s σ H (fun v H1 => v = .ref f ∧ H1 = H) I ⟨.ref f, h0, rfl, rfl⟩) fun u s1 ⟨v, H1, I1, r1, q1⟩ => ?_)
    obtain ⟨ev, eH⟩ := q1
    subst ev
    rw [eH] at I1
    obtain rfl : u = Value.ref f := r1
    have fin : ∀ {us : List Value} {s2 : Shared} {vs : List V} {H2 : Hp}, Inv (X j) pins σ H2 s2 → Vals vs us → (∀ (A : Around) (outer : List Env) (s : Shared) (us : List Value), A.guards = some [] → Room k A → Env0 (X j).prog (X j).w (X j).K (X j).mg (X j).base A outer s H2 → Vals vs us → codeAny (model (X j).prog (X j).w) A (.call (.ref f) ⟨us, []⟩) (CR (L2.CX (X j).prog (X j).w) outer (X j).prog (X j).w H2 s Q (WE W σ)) s) →
        wpAny (model (X j).prog (X j).w) (X j).A (PySem.call (.ref f) us) (EP (X j) pins σ Q) (X j).xe s2 := fun {us s2 vs H2} I2 r q => by
      refine wpAny_call (codeAny_mono (q (X j).A (X j).stack s2 us (hgd j) (hr j) I2.env0 r) fun res s' hq => ?_)
      match res, hq with
      | .error er, hq => exact passAt (tk j) σ pins H2 s2 er s' I2 hq
      | .ok (.ret u), hq => exact I2.after hq
    rcases hok with hk | ⟨r, hf⟩
    · refine PySem.W.callWith_K (h₀ := (X j).base) I1.ok.mod.kin hk (thn ((pa j).run p2 pins s1 σ H _ I1 hc) ?_) (star_plain he) (hpl j)
      rintro us s2 ⟨vs, H2, I2, r, hok2, q⟩
      exact ⟨I2.kIn, fin I2 r q⟩
    · refine PySem.W.callWith_F ⟨_, _, _, _, fixO_at I1.hok hf⟩ (thn ((pa j).run p2 pins s1 σ H _ I1 hc) ?_) (star_plain he) (hpl j)
      rintro us s2 ⟨vs, H2, I2, r2, hok2, q⟩
      exact ⟨⟨_, _, _, _, fixO_at I2.hok (hok2 r hf)⟩, fin I2 r2 q⟩
  · obtain ⟨d, e1, ht1⟩ := getD_run (show getD i ρ (fun d n' => (do Wm.need (keepD K d); let ds ← t ρ; actW P w K mg base k d ds : Wm D) Kd Kx n') Kx n from ht)
    obtain ⟨hkeep, ht2⟩ := ht1
    obtain ⟨v, e2, hv'⟩ := hs.at_ _ _ e1
    have hv' : Has F H v d := hv'
    cases d with
    | fnA a =>
      cases hv'
      refine ⟨a, e2, .inl hkeep, ra F H n σ ρ _ Kx _ hs ht2 (fun vs ds F1 H1 n1 g1 hvs ht3 => ⟨fun r e => g1.keepL e .ext, fun A outer s us hg hr e0 rv => ?_⟩) hx⟩
      obtain ⟨fd, ps, w', G, B, hw⟩ := ht3
      have hsp : spD ds.length w' vs H1 Q (WE W σ) := ⟨hvs.len, F1, n1, ds, Kd, Kx, g1.pb, hvs, hw, fun v d F2 H2 n2 g2 => hq v d F2 H2 n2 (g1.trans g2), fun cls od xd F' H' n' g => hx cls od xd F' H' n' (g1.trans g)⟩
      have hl : us.length = ps.length := by rw [← rv.length]; exact G.len _ _ _ _ hsp
      have bt := B s us (e0.mod.kin.keeps fun b o e => (e0.bs b o e).1) (by rw [List.append_nil]; exact hl)
      rw [List.append_nil] at bt
      exact G.run A outer s H1 ⟨us, []⟩ us vs Q _ hg hr e0 bt rv hsp
    | clo b r cs =>
      obtain ⟨f, rfl, hf, hco⟩ : ∃ f : Addr, v = .ref f ∧ H f = some (FixO f r.obj) ∧ H r.code = some (CodO r.code r.qual) := by
        cases hv' with
        | clo0 _ h1 _ h2 => exact ⟨_, rfl, h1, h2⟩
        | clo1 _ h1 _ h2 _ _ _ => exact ⟨_, rfl, h1, h2⟩
      refine ⟨f, e2, .inr ⟨r, hf⟩, ra F H n σ ρ _ Kx _ hs ht2 (fun vs ds F1 H1 n1 g1 hvs ht3 => ⟨fun r e => g1.keepL e .ext, fun A outer s us hg hr e0 rv => ?_⟩) hx⟩
      obtain ⟨m, sp, hm⟩ := ht3
      exact sp A outer s H1 F1 n1 f us vs ds Kd Kx Q _ hg hr e0 g1.pb (g1.keepL hf .ext) (g1.keepL hco .ext) rv hvs hm (fun v d F2 H2 n2 g2 => hq v d F2 H2 n2 (g1.trans g2)) (fun cls od xd F' H' n' g => hx cls od xd F' H' n' (g1.trans g))
    | _ => exact hkeep.elim
end
theorem clo_okB {P : Program} {w : World} {K : PySem.W.Frag} {mg : Str → Option Value} {base : Heap} {N : List Str} {r : CloR} {k : Nat} {ds : List D} {t : TD D} (S : CloScope N r) (hp : ds.all bareB = true)
    (hbody : ∀ (A : Around) (outer : List Env) (s : Shared) (H : Hp) (E : XK) (f : Addr), A.guards = some [] → Room k (A.deeper (cloEnv r s.heap.objs.size f)) → DE (fun _ : Unit => cloCx P w K mg base N r A outer s H E f) (bW E) r.body t) :
    CloSp P w K mg base (k + 1) r ds (t (ds.map fun d => some (.d d))) := by
  intro A outer s H F n f Kd Xd Q E hg hr e0 pb hf hm hq hx
  cases hf with
  | @clo1 _ _ vs _ Ff hf Fc hco hl hs hds =>
  -- the cells, cut out
  obtain ⟨l, hll⟩ : ∃ l, l = r.cl.map (·.2) := ⟨_, rfl⟩
  have inl : ∀ c ∈ l, ∃ p ∈ r.cl.zip vs, p.1.2 = c := fun c hc => by
    rw [hll] at hc
    obtain ⟨p, hp, e⟩ := List.mem_map.mp hc
    obtain ⟨i, hi, e2⟩ := List.mem_iff_getElem.mp hp
    have hv : vs[i]? = some vs[i] := List.getElem?_eq_getElem (by omega)
    exact ⟨(p, vs[i]), List.mem_of_getElem? (i := i) (by rw [List.getElem?_zip_eq_some]; exact ⟨by rw [List.getElem?_eq_getElem hi, e2], hv⟩), e⟩
  have hcell : ∀ c ∈ l, F c ∧ ∃ o u, H c = some (FixO c o) ∧ o.data = .cell (some u) := fun c hc => by
    obtain ⟨p, hp, rfl⟩ := inl c hc
    obtain ⟨a, u, o, _, dd, e⟩ := hs p hp
    exact ⟨a, o, u, e, dd⟩
  have fx : Fixed l H := fun c hc => let ⟨_, o, _, e, _⟩ := hcell c hc; ⟨o, e⟩
  have hF : ∀ c ∈ l, F c := fun c hc => (hcell c hc).1
  have hfr : ∀ c ∈ l, c ∉ frs outer := fun c hc z => by
    obtain ⟨o, e⟩ := fx c hc
    rw [e0.frf c z] at e
    cases e
  have hnb : ∀ c ∈ l, base.get? c = none := fun c hc => by
    cases q : base.get? c with
    | none => rfl
    | some o =>
      obtain ⟨o2, e⟩ := fx c hc
      rw [(e0.bs c o q).2] at e
      cases e
  have e1 : Env0 P w K mg base A outer s (cut l H) := ⟨e0.frames, e0.mod, fun b o e => ⟨(e0.bs b o e).1, by
    by_cases hb : b ∈ l
    · exact cut_in hb
    · rw [cut_out hb]; exact (e0.bs b o e).2⟩, e0.bsz, e0.funs, fun b hb => by
    by_cases hbl : b ∈ l
    · exact cut_in hbl
    · rw [cut_out hbl]; exact e0.frf b hb, hok_cut fx e0.hok, e0.bare⟩
  have hof : s.heap.get? f = some r.obj := fixO_at e0.hok hf
  have hcode : s.heap.CodeRec (.ref r.code) r.qual := by
    have x : ObjOk P w H s.heap r.code (.ext fun h => ∃ (oc : Obj) (vs : Array Value) (t : Tok), h.get? r.code = some oc ∧ oc.data = .fields vs ∧ vs[1]? = some (.str r.qual t)) := e0.hok _ _ hco
    obtain ⟨⟨oc, vs, t, a, b, c⟩, _⟩ := x
    exact ⟨r.code, oc, vs, t, rfl, a, b, c⟩
  refine PySem.W.kla_callFunE hr.depth hof rfl S.co S.gen rfl hcode ?_
  rw [S.bind]
  refine wpAny_pure (wpAny_newFunctionEnv (fun y hy => (S.own y hy).2) (fun y hy => absurd hy (by simp)) (fun h₁ hns hsb => ⟨(e0.mod.nolimit.keeps fun b o e => (e0.bs b o e).1).fresh _ hsb, ?_⟩) S.kind)
  show codeAny _ _ (.expr r.body (cloEnv r s.heap.objs.size f)) _ _
  have kp : ∀ b o, s.heap.get? b = some o → h₁.get? b = some o := fun b o e => hsb.extBut b o (Nat.ne_of_lt (Heap.lt_size e)) (Heap.get?_push_of_some _ e)
  let E' : XK := fun cls od H' => ∃ xd F' n', Grow (cutF l F) (cut l H) n F' H' n' ∧ HasX F' H' cls od xd ∧ Xd xd n'
  have J : Inv (cloCx P w K mg base N r A outer s (cut l H) E' f) [] (vs.map some) (cut l H) { s with heap := h₁, toks := s.toks + ([] : List (Str × Value)).length } :=
    clo_start S e1 hr.hd hl (fun p hp => let ⟨_, u, o, ru, dd, e⟩ := hs p hp; ⟨u, o, ru, dd, fixO_at e0.hok e, cut_in (by rw [hll]; exact List.mem_map.mpr ⟨p.1, (List.of_mem_zip hp).1, rfl⟩)⟩) hns kp
  obtain ⟨te, pe, re⟩ := hbody A outer s (cut l H) E' f hg (hr.deeper _)
  have hps : HasS (cutF l F) (cut l H) n (vs.map some) (ds.map fun d => some (.d d)) := ⟨pb.cut e0.hok (fun c hc => (hcell c hc).2), by rw [List.length_map, List.length_map, hds.len], fun i x e => by
    rw [List.getElem?_map] at e
    obtain ⟨d, e1, e2⟩ := Option.map_eq_some_iff.mp e
    cases e2
    obtain ⟨v, e3, hv⟩ := (hds.cutB fx e0.hok (fun c hc => (hcell c hc).2) hp).get e1
    exact ⟨v, by rw [List.getElem?_map, e3]; rfl, hv⟩⟩
  have ht : te (vs.map some) (cut l H) (fun v H' => ∃ d F' n', Grow (cutF l F) (cut l H) n F' H' n' ∧ Has F' H' v d ∧ Kd d n') := re _ _ n _ _ Kd Xd _ hps hm (fun v d F' H' n' g hv hk => ⟨d, F', n', g, hv, hk⟩) fun cls od xd F' H' n' g hx' hk => ⟨xd, F', n', g, hx', hk⟩
  have fin : ∀ {er : Value} {s' : Shared}, L2.CX P w outer (cut l H) s E' er s' → L2.CX P w outer H s E er s' := fun {er s'} z => by
    obtain ⟨a, B, H', cls, d, ea, fl, hokB, ub, na, os, ag, xd, F', n', g, hx', hk⟩ := z
    obtain ⟨ub2, hok2, hn, hB⟩ := ub_lay fx e0.hok hfr ub hokB
    have hal : a ∉ l := fun z => by
      obtain ⟨o, e⟩ := hB a z
      rw [fl.2.1] at e
      cases e
    refine ⟨a, B, lay l H H', cls, d, ea, fl, hok2, ub2, by rw [lay_out hal]; exact na, os, ag, ?_⟩
    exact hx cls d xd _ _ n' (g.lay fx hF hn) (hx'.later (later_lay (n := n') hn) fun a fs e => by rw [lay_out (fun z => by rw [hn a z] at e; cases e)]; exact e) hk
  refine PySem.W.kla_codeExpr (wpAny_mono ((pe ()).run [] _ _ (cut l H) _ J ht) (fun v s' hq' => ?_) fun e s' z => wpAny_mono (show wpAny _ _ _ _ _ _ from z) (fun _ s'' z => fin z) fun _ s'' z => fin z)
  obtain ⟨v', H', J', rv, d, F', n', g, hv, hk⟩ := hq'
  obtain ⟨un2, hok2, hn⟩ := un_lay fx e0.hok hfr J'.base J'.hok
  exact ⟨v', lay l H H', J'.os, J'.bare, un2, hok2, rv, hq v' d _ _ n' (g.lay fx hF hn) (hv.later (later_lay (n := n') hn)) hk⟩
/-- by data -/
def tellWB (w : List D → Wm D) (cells : List (Str × Addr)) (caps : List Str) (idx : Str → Nat) (ds : List D) : TD D := fun ρ Kd _ n => ∃ cap : Str → D, (∀ y ∈ caps, ρ[idx y]? = some (some (.d (cap y))) ∧ bareB (cap y) = true) ∧
  tellOkL (fun r => ∀ p ∈ r.cl, p.1 ∈ caps ∧ cells.lookup p.1 = some p.2) ds ∧ w (tellL cap ds) (fun d n' => plainD d = true ∧ Kd d n') XFalse n
section
variable {ι : Type} {X : ι → Cx} {W : WX}
theorem DE.tellB {x : Str} {p pos : Pos} {e : Expr} {es : List Expr} {t : TD (List D)} {k f fd} {ps : List Str} {w : List D → Wm D} {m : Nat} {cells : List (Str × Addr)} {caps : List Str} {idx : Str → Nat} (hcl : ∀ i, (X i).env.cells = cells) (F : ∀ i, FnG (X i).prog (X i).w (X i).K (X i).mg (X i).base k f fd ps (spD m w)) (hgd : ∀ i, (X i).A.guards = some []) (hr : ∀ i, Room k (X i).A)
    (hg : ∀ i, Gl (X i) x) (hm : ∀ i, (X i).mg x = some (.ref f)) (hk : ∀ i, PySem.W.keepIn (X i).K (.ref f) = true) (hb : ∀ i, Binds (X i).K fd ps []) (hfn : ∀ i, ∀ y ∈ caps, (X i).fn y = true) (hcap : ∀ i, ∀ y ∈ caps, (X i).env.scope.names.lookup y = some .cell ∧ (X i).N[idx y]? = some y)
    (h : DA X W (e :: es) t) (hdb : (x == ("__debug__" : Str)) = false := by decide)
    (he : ∀ i, starEach (e :: es) (X i).env = (false, eval e (X i).env) :: starEach es (X i).env := by intro _; rfl) (hpl : ∀ i, (backTo pos (starEach es (X i).env)).any (·.1) = false := by intro _; rfl) :
    DE X W (.Call (.Name x p) (e :: es) [] pos) (fun ρ => do let ds ← t ρ; Wm.need (ds.length = m); tellWB w cells caps idx ds ρ) := by
  obtain ⟨ta, p1, r1⟩ := h
  refine ⟨tTell (spD m w) cells caps idx ta, fun i => by rw [← hcl i]; exact pe_tell (F i) (hgd i) (hr i) (hg i) (hm i) (hk i) (hb i) (hfn i) (hcap i) (p1 i) hdb (he i) (hpl i), fun F H n σ ρ K Kx Q hs ht hq hx => ?_⟩
  refine r1 F H n σ ρ _ Kx _ hs ht (fun vs ds F1 H1 n1 g1 hv ht1 => ?_) hx
  obtain ⟨hlen, cap, hcap', hok, hw⟩ := ht1
  have hs1 := hs.mono g1
  refine ⟨fun y hy => let ⟨v, e, _⟩ := hs1.at_ _ _ (hcap' y hy).1; ⟨v, e⟩, fun f fx hn hcell => ?_⟩
  obtain ⟨l, hl⟩ : ∃ l, l = caps.filterMap (fun y => cells.lookup y) := ⟨_, rfl⟩
  rw [← hl] at fx hn ⊢
  have hn1 : ∀ c ∈ l, H1 c = none := fun c hc => (hn c hc).1
  have told : tellOkL (fun r => ∀ p ∈ r.cl, Told l F1 H1 f cap p) ds := tellOkL.imp (fun r hr p hp => by
    obtain ⟨h1, h2⟩ := hr p hp
    obtain ⟨c, v, u, o, e1, e2, ru, dd, e3⟩ := hcell _ h1
    rw [h2] at e1
    cases e1
    obtain ⟨v', e4, hv'⟩ := hs1.at_ _ _ (hcap' _ h1).1
    rw [e2] at e4
    cases e4
    exact ⟨by rw [hl]; exact List.mem_filterMap.mpr ⟨_, h1, h2⟩, v, u, o, ru, dd, e3, Has.layB hn1 hv' (hcap' _ h1).2⟩) hok
  refine ⟨by rw [hv.len]; exact hlen, layF l F1, n1, tellL cap ds, _, XFalse, g1.pb.lay fx hn1, hv.tell hn1 told, hw, fun v d F' H' n' g hv' hk' => ?_, fun _ _ _ _ _ _ _ _ z => z⟩
  obtain ⟨g2, hkeep⟩ := g.cut g1.pb hn1 fx fun c hc => (hn c hc).2
  have fx' : Fixed l H' := fun c hc => by rw [hkeep c hc]; exact fx c hc
  exact ⟨hkeep, hq v d _ _ n' (g1.trans g2) (hv'.cut fx' hk'.1) hk'.2⟩
end

def forBody : Stmt → List Stmt
  | .For _ _ b _ _ => b
  | _ => []
def lamOfIter : Stmt → Expr
  | .For _ (.Tuple (_ :: e :: _) _ _) _ _ _ => e
  | _ => .Tuple [] 0 ⟨0, 0, 0, 0⟩
end DL


set_option maxRecDepth 100000
set_option maxHeartbeats 2000000
/-! DL20: errors as values: made by place and by name, their fields, isinstance, caught without a name. Own work over HandS; the first part turns proofs of HandS.Exc to calls with keywords. -/
namespace DL.Kw
open PySem PySem.Spec PySem.HandSPX
section
variable {M : Model} {A : Around} {E : Value → Shared → Prop} {h : Heap} {gs : Array GenState} {dr : Drawn} {tk : Nat} {osx : OsState}
variable {na q : Str} {C N : Addr} {b0 mro mrB : List Value} {hd : Bool} {s1 : List Str} {s2 : List Value} {a1 : Bool} {a2 : Option Bool} {a3 : Option Addr} {p0 p1 p2 p3 p5 : Option Value} {Bn nid iid : String}

theorem check_new_ownK (EF : ExcBaseFacts Bn nid iid mrB) (same : ∀ X : String, mro.contains (.type X) = mrB.contains (.type X)) {xs : List Value} {kw : List (Str × Value)} {Q : Unit → Shared → Prop}
    (atC : h.get? C = some (excClassObj na q C N b0 mro hd s1 s2 a1 a2 a3 p0 p1 p2 p3 p5 nid)) (fin : Q () ⟨h, gs, dr, tk, osx⟩) : wpAny M A (checkBuiltinCall nid ⟨.ref C :: xs, kw⟩) Q E ⟨h, gs, dr, tk, osx⟩ := by
  have c0 : (Value.ref C :: mro).contains (.type Bn) = true := by rw [List.contains_cons, same, EF.hasB, Bool.or_true]
  have c1 := EF.noStar
  simp only [checkBuiltinCall, EF.newKind, EF.newSplit, EF.newRow]
  repeat (first | refine wpAny_loadPart_at atC ?_ | (refine wpAny_isSubtype_exc atC ?_; rw [c0]) | refine wpAny_staticBase_exc atC ?_ | refine wpAny_madeBy_exc atC ?_ | simp only [bne_self_eq_false, Bool.false_eq_true, if_false] | wp_step)
  exact fin
theorem check_type_callK {M : Model} {xs : List Value} {kw : List (Str × Value)} {Q : Unit → Shared → Prop} (atC : h.get? C = some (excClassObj na q C N b0 mro hd s1 s2 a1 a2 a3 p0 p1 p2 p3 p5 nid))
    (fin : Q () ⟨h, gs, dr, tk, osx⟩) : wpAny M A (checkBuiltinCall "type.__call__" ⟨.ref C :: xs, kw⟩) Q E ⟨h, gs, dr, tk, osx⟩ := by
  have w3 := tc_sub
  have same : (⟨h, gs, dr, tk, osx⟩ : Shared).TypeIs (.ref C) "type" := ⟨_, atC, rfl⟩
  simp only [checkBuiltinCall, tc_kind, tc_split]
  repeat (any_goals (first | assumption | with_reducible refine wpAny_loadPart_at atC ?_ | with_reducible refine wpAny_onRaise ?_ | with_reducible refine wpAny_map ?_ | wp_step))

end
section
variable {prog : Program} {w : World} {A : Around} {E : Value → Shared → Prop} {R : Result → Shared → Prop} {h : Heap} {gs : Array GenState} {dr : Drawn} {tk : Nat} {osx : OsState}
variable {na q : Str} {C N : Addr} {b0 mro mrB : List Value} {hd : Bool} {s1 : List Str} {s2 : List Value} {a1 : Bool} {a2 : Option Bool} {a3 : Option Addr} {p0 p1 p2 p3 p5 : Option Value} {Bn nid iid : String}

theorem new_ownK (EF : ExcBaseFacts Bn nid iid mrB) (same : ∀ X : String, mro.contains (.type X) = mrB.contains (.type X)) {xs : List Value} {kw : List (Str × Value)}
    (atC : h.get? C = some (excClassObj na q C N b0 mro hd s1 s2 a1 a2 a3 p0 p1 p2 p3 p5 nid))
    (fin : R (.ok (.ret (.ref (h.objs.size + 1)))) ⟨(h.push { cls := .type "tuple", data := .seq xs.toArray }).push
      { cls := .ref C, data := .fields #[.ref h.objs.size, .none, .none, .none, .bool false, .none] }, gs, dr, tk, osx⟩) (xsl : xs.length ≤ sizeLine) :
    codeAny (model prog w) A (.builtin nid ⟨.ref C :: xs, kw⟩) R ⟨h, gs, dr, tk, osx⟩ := by
  have cE := EF.ends
  have cB : (Value.ref C :: mro).contains (.type Bn) = true := by rw [List.contains_cons, same, EF.hasB, Bool.or_true]
  have cA : (Value.ref C :: mro).contains (.type "AttributeError") = false := by rw [List.contains_cons, same, EF.noAttr]; rfl
  have cN : (Value.ref C :: mro).contains (.type "NameError") = false := by rw [List.contains_cons, same, EF.noName]; rfl
  refine codeAny_builtinAt EF.entry ?_
  unfold Builtin.«BaseException.__new__»
  refine wpAt_bind ?_
  show wpAt _ _ _ (stack >>= _) _ _ _
  refine wpAt_bind (wpAt_stack fun p below => wpAt_of_wpAny ?_)
  wp_walk
  refine wpAt_of_wpAny ?_
  rw [EF.owner]
  repeat (first | with_reducible refine wpAny_madeHere_exc EF.canon atC ?_ | with_reducible refine wpAny_loadPart_at atC ?_ | (with_reducible refine wpAny_isSubtype_exc atC ?_; first | rw [cB] | rw [cA] | rw [cN]) | wp_step)
  show R _ _
  rw [Heap.size_push]
  exact fin

theorem type_call_ownK (EF : ExcBaseFacts Bn nid iid mrB) (same : ∀ X : String, mro.contains (.type X) = mrB.contains (.type X)) {xs : List Value} {kw : List (Str × Value)} {ini : Addr} {Q : Fin → Shared → Prop}
    (atC : h.get? C = some (excClassObj na q C N b0 mro hd s1 s2 a1 a2 a3 p0 p1 p2 p3 p5 nid))
    (iI : W.Looks (model prog w) h (typeLookup (.ref C) "__init__") (some (.ref ini))) (bI : ∀ self, W.Looks (model prog w) h (bindSpecial (.ref ini) self) (.ref ini, [self])) (xsl : xs.length ≤ sizeLine)
    (fin : codeAny (model prog w) A (.call (.ref ini) ⟨.ref (h.objs.size + 1) :: xs, kw⟩)
      (fun r s' => match r with | .ok (.ret v) => v = .none ∧ Q (.done (.ret (.ref (h.objs.size + 1)))) s' | .ok _ => False | .error e => E e s')
      ⟨(h.push (W.kdv_tup xs)).push (excO C h.objs.size), gs, dr, tk, osx⟩) :
    wpAny (model prog w) A (Builtin.«type.__call__» ⟨.ref C :: xs, kw⟩) Q E ⟨h, gs, dr, tk, osx⟩ := by
  repeat (first | with_reducible refine wpAny_loadPart_at atC ?_ | with_reducible refine wpAny_madeBy_exc atC ?_ | wp_step)
  refine codeAny_call_builtin_code (Code.quiet_builtin _ EF.quiet) (check_new_ownK EF same atC ?_)
  refine new_ownK EF same atC ?_ xsl
  show wpAny _ _ _ _ _ _
  have kp : ∀ b o, h.get? b = some o → ((h.push (W.kdv_tup xs)).push (excO C h.objs.size)).get? b = some o := fun b o e => Heap.get?_push_of_some _ (Heap.get?_push_of_some _ e)
  have atC1 := kp _ _ atC
  have atE : ((h.push (W.kdv_tup xs)).push (excO C h.objs.size)).get? (h.objs.size + 1) = some (excO C h.objs.size) := by heap_get
  have cC : (Value.ref C :: mro).contains (.ref C) = true := by simp
  have j1 := iI.keeps kp
  have j2 := (bI (.ref (h.objs.size + 1))).keeps kp
  unfold isInstance
  repeat (first | with_reducible refine wpAny_loadPart_at atE ?_ | (with_reducible refine wpAny_isSubtype_exc atC1 ?_; rw [cC]) | wp_step)
  show wpAny _ _ (typeLookup (.ref C) _) _ _ _
  refine j1.at ?_
  refine wpAny_holding (wpAny_bind (j2.at ?_))
  refine wpAny_bind (wpAny_call (codeAny_mono fin fun r s' zz => ?_))
  rcases r with e | (v | _ | _ | _) <;> first | exact zz | exact zz.elim | skip
  obtain ⟨rfl, zz⟩ := zz
  first
    | exact wpAny_pure (wpAny_pure zz)
    | (wp_walk; exact zz)

theorem call_ownK (EF : ExcBaseFacts Bn nid iid mrB) (same : ∀ X : String, mro.contains (.type X) = mrB.contains (.type X)) {xs : List Value} {kw : List (Str × Value)} {ini : Addr}
    (atC : h.get? C = some (excClassObj na q C N b0 mro hd s1 s2 a1 a2 a3 p0 p1 p2 p3 p5 nid))
    (iI : W.Looks (model prog w) h (typeLookup (.ref C) "__init__") (some (.ref ini))) (bI : ∀ self, W.Looks (model prog w) h (bindSpecial (.ref ini) self) (.ref ini, [self])) (xsl : xs.length ≤ sizeLine)
    (fin : codeAny (model prog w) (A.under (.builtin "type.__call__" ⟨.ref C :: xs, kw⟩)) (.call (.ref ini) ⟨.ref (h.objs.size + 1) :: xs, kw⟩) (W.InitBack (h.objs.size + 1) R)
      ⟨(h.push (W.kdv_tup xs)).push (excO C h.objs.size), gs, dr, tk, osx⟩) :
    codeAny (model prog w) A (.call (.ref C) ⟨xs, kw⟩) R ⟨h, gs, dr, tk, osx⟩ := by
  have w1 := tc_lookup
  have w2 := tc_bind (.ref C)
  have tyC : (⟨h, gs, dr, tk, osx⟩ : Shared).TypeIs (.ref C) "type" := ⟨_, atC, rfl⟩
  refine codeAny_of_tree ?_
  show wpAny _ _ (callAny (.ref C) _) _ _ _
  repeat (any_goals (first | assumption | with_reducible refine wpAny_loadPart_at atC ?_ | wp_step))
  refine ⟨rfl, ?_⟩
  refine codeAny_call_builtin_at (Code.quiet_builtin _ (by decide +kernel)) entry_typeCall (check_type_callK atC (type_call_ownK EF same atC iI bI xsl ?_))
  refine codeAny_mono fin fun r s' zz => ?_
  rcases r with e | (v | _ | _ | _) <;> exact zz

end
end DL.Kw


set_option maxRecDepth 100000
set_option maxHeartbeats 2000000
/-! DL21: errors as values: made by place and by name, their fields, isinstance, caught without a name. Own work over HandS. -/
namespace DL
open PySem PySem.Spec PyProof.Rows L2
/-! ### C(e, ..), C(f = e, ..) as values -/
section
variable {X : Cx} {pins : List (Addr × Obj)} {σ : L2.St} {H : Hp} {s : Shared} {Q : VK} {C fI : Addr} {k : Nat} {fd : FuncData} {ps : List Str} {sp : Sp}
theorem run_newO {us bs : List Value} {kws : List (Str × Value)} {vs : List V} (T : OexC X.K C) (iC : PySem.W.findIn X.K (.ref C) "__init__" = some (some (.ref fI))) (tI : PySem.W.typeIn X.K (.ref fI) = some (.type "function"))
    (F1 : FnOk X.prog X.w X.K X.mg X.base (L2.CX X.prog X.w) k fI fd ps sp) (hr : Room (k + 1) X.A) (I : Inv X pins σ H s) (r : Vals vs bs) (hus : us.length ≤ 1000) (hb : ∀ (s' : Shared) (a : Value), X.K.In s'.heap → BindsTo s' fd ⟨a :: us, kws⟩ (ps.zip (a :: bs)))
    (q : ∀ a, H a = none → sp (.ref a :: vs) (upd H a (exo a C none)) (fun v H2 => v = .non ∧ Q (.ref a) H2) (fun _ _ _ => False)) : wpAny (model X.prog X.w) X.A (call (.ref C) us kws) (EP X pins σ Q) X.xe s := by
  obtain ⟨nm, qn, N, bss, bm, sn, sub, ab, col, dd, k0, k1, k2, k3, k5, hC, hbm⟩ := T.cls
  obtain ⟨hp, g, dr, tk, os⟩ := s
  have hsz : hp.objs.size ≤ hp.objs.size + 1 := Nat.le_succ _
  have hq := q (hp.objs.size + 1) (I.hok.fresh hsz)
  have kk : ∀ b o, hp.get? b = some o → ((hp.push (PySem.W.kdv_tup us)).push (PySem.HandSPX.excO C hp.objs.size)).get? b = some o := fun b o e => Heap.get?_push_of_some _ (Heap.get?_push_of_some _ e)
  have hget : ((hp.push (PySem.W.kdv_tup us)).push (PySem.HandSPX.excO C hp.objs.size)).get? (hp.objs.size + 1) = some (PySem.HandSPX.excO C hp.objs.size) := by heap_get
  have I2 : Inv X pins σ (upd H (hp.objs.size + 1) (exo (hp.objs.size + 1) C none)) ⟨(hp.push (PySem.W.kdv_tup us)).push (PySem.HandSPX.excO C hp.objs.size), g, dr, tk, os⟩ :=
    I.laid (t' := tk) (a := hp.objs.size + 1) (o := exo (hp.objs.size + 1) C none) (h' := (hp.push (PySem.W.kdv_tup us)).push (PySem.HandSPX.excO C hp.objs.size)) kk hsz (exo_ok hget)
  have r2 : Vals (V.ref (hp.objs.size + 1) :: vs) (Value.ref (hp.objs.size + 1) :: bs) := .cons rfl r
  have husz : us.length ≤ sizeLine := by rw [sizeLine_eq]; omega
  refine wpAny_call (Kw.call_ownK F.excBase_ValueError (fun Y => PySem.HandSPX.refsVE_contains Y bm hbm) (I.kIn _ _ hC) (PySem.W.looks_findIn I.kIn iC) (fun self => PySem.W.bind_fn I.kIn self tI) husz
    (codeAny_mono (F1.run _ X.stack _ _ ⟨Value.ref (hp.objs.size + 1) :: us, kws⟩ (Value.ref (hp.objs.size + 1) :: bs) _ _ (fun _ _ _ => False) (hr.make C us kws) (I2.env0.make C us kws) (hb _ _ I2.kIn) r2 hq) fun r s' hq' => ?_))
  cases r with
  | error er => exact passL pins σ _ _ er s' I2 hq'
  | ok fl =>
    cases fl with
    | ret u =>
      obtain ⟨v, H', I3, rv, ev, q3⟩ := I2.after hq'
      subst ev
      exact ⟨rv, ⟨V.ref (hp.objs.size + 1), H', I3, rfl, q3⟩⟩
    | next => exact False.elim hq'
    | brk => exact False.elim hq'
    | cont => exact False.elim hq'
end
/-- the new exception's fields stand -/
theorem exc_laid {F1 : Addr → Prop} {H1 : Hp} {n1 : Nat} {C a dx : Addr} {fs : List Str} {vs : List V} {ds : List D} (pb : PenB F1 H1 n1) (hv : HasL F1 H1 vs ds) (hl : vs.length = fs.length) (ha : H1 a = none) (n : upd H1 a (exo a C none) dx = none) (ne : dx ≠ a) :
    ∃ F2, Grow F1 H1 n1 F2 (upd (upd (upd H1 a (exo a C none)) a (exo a C (some dx))) dx (exd dx ((fs.zip vs).reverse))) n1 ∧ Has F2 (upd (upd (upd H1 a (exo a C none)) a (exo a C (some dx))) dx (exd dx ((fs.zip vs).reverse))) (.ref a) (.exc C fs.reverse ds.reverse) := by
  have hd1 : H1 dx = none := by rw [upd_ne ne] at n; exact n
  have hd2 : upd H1 a (exo a C (some dx)) dx = none := by rw [upd_ne ne]; exact hd1
  have g2 : Grow F1 H1 n1 (plusF F1 a) (upd H1 a (exo a C (some dx))) n1 := .laid pb ha .ext
  have g3 : Grow (plusF F1 a) (upd H1 a (exo a C (some dx))) n1 (plusF (plusF F1 a) dx) (upd (upd H1 a (exo a C (some dx))) dx (exd dx ((fs.zip vs).reverse))) n1 := .laid g2.pb hd2 .ext
  rw [upd_upd]
  have e1 : ((fs.zip vs).reverse).map (·.1) = fs.reverse := by rw [List.map_reverse, List.map_fst_zip (by omega)]
  have e2 : ((fs.zip vs).reverse).map (·.2) = vs.reverse := by rw [List.map_reverse, List.map_snd_zip (by omega)]
  exact ⟨_, g2.trans g3, .exc (.inl plusF_same) (by rw [upd_ne (Ne.symm ne), upd_same]) plusF_same upd_same e1 (by rw [e2]; exact (hv.mono (g2.trans g3)).rev)⟩
theorem vals_rev {vs : List V} {us : List Value} (r : Vals vs us) : Vals vs.reverse us.reverse := by
  induction r with
  | nil => exact .nil
  | cons h r ih =>
    rw [List.reverse_cons, List.reverse_cons]
    exact ih.append (.cons h .nil)
/-- C(e, ..) as a value -/
def tNewO (C : Addr) (sp : Sp) (r : Bool) (ta : TA) : TE := fun σ H Q => ta σ H fun vs H1 => vs.length ≤ 1000 ∧ ∀ a, H1 a = none → sp (.ref a :: (if r then vs.reverse else vs)) (upd H1 a (exo a C none)) (fun v H2 => v = .non ∧ Q (.ref a) H2) (fun _ _ _ => False)
/-- how the keywords of C(g = .., f = ..), the last field first, are bound -/
def KwB (K : PySem.W.Frag) (fd : FuncData) (ps fs : List Str) : Prop := ∀ (s : Shared) (a : Value) (ws : List Value), K.In s.heap → ws.length = fs.length → BindsTo s fd ⟨[a], fs.reverse.zip ws⟩ (ps.zip (a :: ws.reverse))
section
variable {X : Cx} {C fI : Addr} {k : Nat} {fd : FuncData} {ps fs : List Str} {sp : Sp} {x : Str} {p pos : Pos} {e : Expr} {es : List Expr} {kws : List Keyword} {ta tk : TA}
theorem pe_newO (T : OexC X.K C) (iC : PySem.W.findIn X.K (.ref C) "__init__" = some (some (.ref fI))) (tI : PySem.W.typeIn X.K (.ref fI) = some (.type "function")) (F1 : FnOk X.prog X.w X.K X.mg X.base (L2.CX X.prog X.w) k fI fd ps sp) (hr : Room (k + 1) X.A) (hb : Binds X.K fd ps []) (hg : Gl X x) (hm : X.mg x = some (.ref C)) (ha : PA X (e :: es) ta)
    (hdb : (x == ("__debug__" : Str)) = false := by decide) (he : starEach (e :: es) X.env = (false, eval e X.env) :: starEach es X.env := by rfl) (hpl : (backTo pos (starEach es X.env)).any (·.1) = false := by rfl) :
    PE X (.Call (.Name x p) (e :: es) [] pos) (tNewO C sp false ta) := by
  refine ⟨fun pins s σ H Q I h => ?_⟩
  refine wpAny_Call_Name_kw (ld_glob I hg hm ?_ hdb)
  refine PySem.W.callWith_K (h₀ := X.base) I.ok.mod.kin T.kC (thn (ha.run pos pins s σ H _ I h) fun us s1 ⟨vs, H1, I1, r1, hz, q1⟩ => ⟨I1.kIn, ?_⟩) he hpl
  have q1 : ∀ a, H1 a = none → sp (.ref a :: vs) (upd H1 a (exo a C none)) (fun v H2 => v = .non ∧ Q (.ref a) H2) (fun _ _ _ => False) := q1
  refine run_newO (us := us) T iC tI F1 hr I1 r1 (by rw [← r1.length]; exact hz) (fun s' a X' => ?_) q1
  have hl : (a :: us).length = ps.length := by
    have e1 := F1.len _ _ _ _ (q1 (s1.heap.objs.size + 1) (I1.hok.fresh (Nat.le_succ _)))
    rw [← e1, List.length_cons, List.length_cons, r1.length]
  have b := hb s' (a :: us) X' (by rw [List.append_nil]; exact hl)
  rw [List.append_nil] at b
  exact b
theorem pe_newO0 (T : OexC X.K C) (iC : PySem.W.findIn X.K (.ref C) "__init__" = some (some (.ref fI))) (tI : PySem.W.typeIn X.K (.ref fI) = some (.type "function")) (F1 : FnOk X.prog X.w X.K X.mg X.base (L2.CX X.prog X.w) k fI fd ps sp) (hr : Room (k + 1) X.A) (hb : Binds X.K fd ps []) (hg : Gl X x) (hm : X.mg x = some (.ref C))
    (hdb : (x == ("__debug__" : Str)) = false := by decide) : PE X (.Call (.Name x p) [] [] pos) (tNewO C sp false tNil) := by
  refine ⟨fun pins s σ H Q I h => ?_⟩
  refine wpAny_Call_Name_kw (ld_glob I hg hm ?_ hdb)
  have q1 : ∀ a, H a = none → sp [.ref a] (upd H a (exo a C none)) (fun v H2 => v = .non ∧ Q (.ref a) H2) (fun _ _ _ => False) := h.2
  refine PySem.W.callWith_K0 I.kIn T.kC (run_newO (us := []) (bs := []) (vs := []) T iC tI F1 hr I .nil (by simp) (fun s' a X' => ?_) q1)
  have hl : [a].length = ps.length := by
    have e1 := F1.len _ _ _ _ (q1 (s.heap.objs.size + 1) (I.hok.fresh (Nat.le_succ _)))
    rw [← e1]
    rfl
  have b := hb s' [a] X' (by rw [List.append_nil]; exact hl)
  rw [List.append_nil] at b
  exact b
theorem pe_newK (T : OexC X.K C) (iC : PySem.W.findIn X.K (.ref C) "__init__" = some (some (.ref fI))) (tI : PySem.W.typeIn X.K (.ref fI) = some (.type "function")) (F1 : FnOk X.prog X.w X.K X.mg X.base (L2.CX X.prog X.w) k fI fd ps sp) (hr : Room (k + 1) X.A) (hb : KwB X.K fd ps fs) (hps : ps.length = fs.length + 1) (hg : Gl X x) (hm : X.mg x = some (.ref C)) (hkw : PK X kws tk)
    (hall : (backToKw pos (keywordEach kws X.env)).all (·.1.isSome) = true := by rfl) (hks : (backToKw pos (keywordEach kws X.env)).filterMap (·.1) = fs.reverse := by rfl) (hdb : (x == ("__debug__" : Str)) = false := by decide)
    (hpl : ((backTo pos (starEach [] X.env)).any (·.1) || (backToKw pos (keywordEach kws X.env)).any (·.1.isNone)) = false := by rfl) :
    PE X (.Call (.Name x p) [] kws pos) (tNewO C sp true tk) := by
  refine ⟨fun pins s σ H Q I h => ?_⟩
  refine wpAny_Call_Name_kw (ld_glob I hg hm ?_ hdb)
  refine PySem.W.callWith_KW0 (h₀ := X.base) I.ok.mod.kin T.kC hall ?_ hpl
  refine thn (hkw.run pos pins s σ H _ I h) fun ws s2 ⟨zs, H2, I2, rz, hz, q2⟩ => ⟨I2.kIn, ?_⟩
  rw [hks]
  have q2 : ∀ a, H2 a = none → sp (.ref a :: zs.reverse) (upd H2 a (exo a C none)) (fun v H3 => v = .non ∧ Q (.ref a) H3) (fun _ _ _ => False) := q2
  have hl : ws.length = fs.length := by
    have e1 := F1.len _ _ _ _ (q2 (s2.heap.objs.size + 1) (I2.hok.fresh (Nat.le_succ _)))
    rw [List.length_cons, List.length_reverse, hps] at e1
    rw [← rz.length]
    omega
  exact run_newO (us := []) T iC tI F1 hr I2 (vals_rev rz) (by simp) (fun s' a X' => hb s' a ws X' hl) q2
end
/-! ### the same by data -/
structure DK {ι : Type} (X : ι → Cx) (W : WX) (kws : List Keyword) (t : TD (List D)) : Prop where
  ex : ∃ tk, (∀ i, PK (X i) kws tk) ∧ RunA W tk t
/-- a def's promise: no field -/
def spInit0 (C : Addr) : Sp := fun vs H Q _ => ∃ a, vs = [.ref a] ∧ H a = some (exo a C none) ∧ Q .non H
section
variable {ι : Type} {X : ι → Cx} {W : WX}
theorem DK.nil : DK X W [] (fun _ => pure []) := ⟨_, fun _ => pk_nil, fun F H n σ ρ K Kx Q hs ht hq _ => hq [] [] F H n (.refl hs.pb) .nil ht⟩
theorem DK.cons {nm : Option Str} {e : Expr} {kpos : Pos} {kws : List Keyword} {t : TD D} {u : TD (List D)} (h1 : DE X W e t) (h2 : DK X W kws u) :
    DK X W (⟨nm, e, kpos⟩ :: kws) (fun ρ => do let d ← t ρ; let ds ← u ρ; pure (d :: ds)) := by
  obtain ⟨te, p1, r1⟩ := h1
  obtain ⟨ta, p2, r2⟩ := h2
  refine ⟨_, fun i => pk_cons (p1 i) (p2 i), fun F H n σ ρ K Kx Q hs ht hq hx => ?_⟩
  refine r1 F H n σ ρ _ Kx _ hs ht (fun v d F1 H1 n1 g1 hv ht1 => ?_) hx
  refine r2 F1 H1 n1 σ ρ _ Kx _ (hs.mono g1) ht1 (fun vs ds F2 H2 n2 g2 hvs ht2 => ?_) fun cls od xd F' H' n' g => hx cls od xd F' H' n' (g1.trans g)
  exact hq (v :: vs) (d :: ds) F2 H2 n2 (g1.trans g2) (.cons (hv.mono g2) hvs) ht2
theorem DE.newO {x : Str} {C fI : Addr} {k : Nat} {fd : FuncData} {ps fs : List Str} {e : Expr} {es : List Expr} {t : TD (List D)} {p pos : Pos} (T : ∀ i, OexC (X i).K C) (hz : fs.length ≤ 800)
    (iC : ∀ i, PySem.W.findIn (X i).K (.ref C) "__init__" = some (some (.ref fI))) (tI : ∀ i, PySem.W.typeIn (X i).K (.ref fI) = some (.type "function"))
    (F1 : ∀ i, FnOk (X i).prog (X i).w (X i).K (X i).mg (X i).base (L2.CX (X i).prog (X i).w) k fI fd ps (spInit C fs)) (hr : ∀ i, Room (k + 1) (X i).A) (hb : ∀ i, Binds (X i).K fd ps []) (hg : ∀ i, Gl (X i) x) (hm : ∀ i, (X i).mg x = some (.ref C)) (ha : DA X W (e :: es) t)
    (hdb : (x == ("__debug__" : Str)) = false := by decide) (he : ∀ i, starEach (e :: es) (X i).env = (false, eval e (X i).env) :: starEach es (X i).env := by intro _; rfl) (hpl : ∀ i, (backTo pos (starEach es (X i).env)).any (·.1) = false := by intro _; rfl) :
    DE X W (.Call (.Name x p) (e :: es) [] pos) (fun ρ => do let ds ← t ρ; Wm.need (ds.length = fs.length); pure (.exc C fs.reverse ds.reverse)) := by
  obtain ⟨ta, pa, ra⟩ := ha
  refine ⟨_, fun i => pe_newO (T i) (iC i) (tI i) (F1 i) (hr i) (hb i) (hg i) (hm i) (pa i) hdb (he i) (hpl i), fun F H n σ ρ K Kx Q hs ht hq hx => ?_⟩
  refine ra F H n σ ρ _ Kx _ hs ht (fun vs ds F1 H1 n1 g1 hv hk => ?_) hx
  obtain ⟨hl, hk⟩ := hk
  have hlv : vs.length = fs.length := by rw [hv.len]; exact hl
  refine ⟨by omega, fun a ha => ⟨a, vs, rfl, hlv, upd_same, fun dx n ne => ⟨rfl, ?_⟩⟩⟩
  obtain ⟨F2, g2, h2⟩ := exc_laid g1.pb hv hlv ha n ne
  exact hq _ _ F2 _ n1 (g1.trans g2) h2 hk
theorem DE.newK {x : Str} {C fI : Addr} {k : Nat} {fd : FuncData} {ps fs : List Str} {kws : List Keyword} {t : TD (List D)} {p pos : Pos} (T : ∀ i, OexC (X i).K C) (hz : fs.length ≤ 800)
    (iC : ∀ i, PySem.W.findIn (X i).K (.ref C) "__init__" = some (some (.ref fI))) (tI : ∀ i, PySem.W.typeIn (X i).K (.ref fI) = some (.type "function"))
    (F1 : ∀ i, FnOk (X i).prog (X i).w (X i).K (X i).mg (X i).base (L2.CX (X i).prog (X i).w) k fI fd ps (spInit C fs)) (hr : ∀ i, Room (k + 1) (X i).A) (hb : ∀ i, KwB (X i).K fd ps fs) (hps : ps.length = fs.length + 1) (hg : ∀ i, Gl (X i) x) (hm : ∀ i, (X i).mg x = some (.ref C)) (ha : DK X W kws t)
    (hall : ∀ i, (backToKw pos (keywordEach kws (X i).env)).all (·.1.isSome) = true := by intro _; rfl) (hks : ∀ i, (backToKw pos (keywordEach kws (X i).env)).filterMap (·.1) = fs.reverse := by intro _; rfl) (hdb : (x == ("__debug__" : Str)) = false := by decide)
    (hpl : ∀ i, ((backTo pos (starEach [] (X i).env)).any (·.1) || (backToKw pos (keywordEach kws (X i).env)).any (·.1.isNone)) = false := by intro _; rfl) :
    DE X W (.Call (.Name x p) [] kws pos) (fun ρ => do let ds ← t ρ; Wm.need (ds.length = fs.length); pure (.exc C fs.reverse ds)) := by
  obtain ⟨ta, pa, ra⟩ := ha
  refine ⟨_, fun i => pe_newK (T i) (iC i) (tI i) (F1 i) (hr i) (hb i) hps (hg i) (hm i) (pa i) (hall i) (hks i) hdb (hpl i), fun F H n σ ρ K Kx Q hs ht hq hx => ?_⟩
  refine ra F H n σ ρ _ Kx _ hs ht (fun vs ds F1 H1 n1 g1 hv hk => ?_) hx
  obtain ⟨hl, hk⟩ := hk
  have hlv : vs.reverse.length = fs.length := by rw [List.length_reverse, hv.len]; exact hl
  refine ⟨by rw [List.length_reverse] at hlv; omega, fun a ha => ⟨a, vs.reverse, rfl, hlv, upd_same, fun dx n ne => ⟨rfl, ?_⟩⟩⟩
  obtain ⟨F2, g2, h2⟩ := exc_laid g1.pb hv.rev hlv ha n ne
  rw [List.reverse_reverse] at h2
  exact hq _ _ F2 _ n1 (g1.trans g2) h2 hk
theorem DE.new0 {x : Str} {C fI : Addr} {k : Nat} {fd : FuncData} {ps : List Str} {p pos : Pos} (T : ∀ i, OexC (X i).K C)
    (iC : ∀ i, PySem.W.findIn (X i).K (.ref C) "__init__" = some (some (.ref fI))) (tI : ∀ i, PySem.W.typeIn (X i).K (.ref fI) = some (.type "function"))
    (F1 : ∀ i, FnOk (X i).prog (X i).w (X i).K (X i).mg (X i).base (L2.CX (X i).prog (X i).w) k fI fd ps (spInit0 C)) (hr : ∀ i, Room (k + 1) (X i).A) (hb : ∀ i, Binds (X i).K fd ps []) (hg : ∀ i, Gl (X i) x) (hm : ∀ i, (X i).mg x = some (.ref C))
    (hdb : (x == ("__debug__" : Str)) = false := by decide) : DE X W (.Call (.Name x p) [] [] pos) (fun _ => pure (.exc C [] [])) := by
  refine ⟨_, fun i => pe_newO0 (T i) (iC i) (tI i) (F1 i) (hr i) (hb i) (hg i) (hm i) hdb, fun F H n σ ρ K Kx Q hs ht hq hx => ?_⟩
  exact ⟨by simp, fun a ha => ⟨a, rfl, upd_same, rfl, hq (.ref a) (.exc C [] []) (plusF F a) _ n (.laid hs.pb ha .ext) (.exc0 plusF_same upd_same) ht⟩⟩
end
/-! ### e.f of an error -/
def tAtt (K : PySem.W.Frag) (f : Str) (te : TE) : TE := fun σ H Q => te σ H fun x H1 => ∃ (a C dx : Addr) (fs : List (Str × V)) (v : V), x = .ref a ∧ XfC K C ∧ PySem.W.findIn K (.ref C) f = some none ∧ H1 a = some (exo a C (some dx)) ∧ H1 dx = some (exd dx fs) ∧ fs.lookup f = some v ∧ Q v H1
theorem pe_att {X : Cx} {e : Expr} {te : TE} {pos : Pos} {f : Str} (he : PE X e te) (hb : attributeBase e f X.env (eval e X.env) = eval e X.env := by rfl) : PE X (.Attribute e f pos) (tAtt X.K f te) := by
  refine ⟨fun pins s σ H Q I h => attr_of hb (thn (he.run pins s σ H _ I h) fun u s1 ⟨x, H1, I1, rx, a, C, dx, fs, v, ex, T, hno, ea, ed, l, q⟩ => ?_)⟩
  subst ex
  obtain rfl : u = Value.ref a := rx
  obtain ⟨t1, ho⟩ := exo_at I1.hok ea
  obtain ⟨mA, hns, hr⟩ := exd_at I1.hok ed
  obtain ⟨od, ho2, hl⟩ := lookIn_ns hns
  obtain ⟨u, hu, ru⟩ := RelO.some_of (v := v) (o := mA f) (by rw [← l]; exact hr f)
  have J : PySem.W.InstAt s1.heap a _ C (some od) := ⟨ho, rfl, rfl, ho2⟩
  exact PySem.HandSPX.exc_get I1.kIn J T.ga T.gg T.exC (PySem.W.findObj_own T.hdC hno rfl (by rw [hl, hu])) (handed_of ru) ⟨v, H1, I1.tok _, ru, q⟩
def attW (K : PySem.W.Frag) (f : Str) : D → Wm D
  | .exc C ns ds => fun Kd _ n => ∃ d, XfC K C ∧ PySem.W.findIn K (.ref C) f = some none ∧ fieldD ns ds f = some d ∧ Kd d n
  | _ => Wm.fail
theorem DE.att {ι : Type} {X : ι → Cx} {W : WX} {K : PySem.W.Frag} {e : Expr} {t : TD D} {pos : Pos} {f : Str} (hK : ∀ i, (X i).K = K) (h : DE X W e t) (hb : ∀ i, attributeBase e f (X i).env (eval e (X i).env) = eval e (X i).env := by intro _; rfl) : DE X W (.Attribute e f pos) (fun ρ => do attW K f (← t ρ)) := by
  obtain ⟨te, pe, re⟩ := h
  refine ⟨tAtt K f te, fun i => by rw [← hK i]; exact pe_att (pe i) (hb i), fun F H n σ ρ Kd Kx Q hs ht hq hx => ?_⟩
  refine re F H n σ ρ _ Kx _ hs ht (fun v d F1 H1 n1 g1 hv hk => ?_) hx
  cases d with
  | exc C ns ds =>
    obtain ⟨d, T, no, e, hk⟩ := hk
    cases hv with
    | exc fa ha fd hd z l =>
      rw [← z] at e
      obtain ⟨v, e2, hv2⟩ := field_has l e
      exact ⟨_, C, _, _, v, rfl, T, no, ha, hd, e2, hq v d F1 H1 n1 g1 hv2 hk⟩
    | exc0 fa ha => cases e
  | _ => exact hk.elim
/-! ### isinstance of an error -/
def rIsX (K : PySem.W.Frag) : List V → Hp → VK → Prop := fun xs H Q => ∃ (a C : Addr) (d : Option Addr) (c : V) (cv : Value) (b : Bool), xs = [.ref a, c] ∧ H a = some (exo a C d) ∧ (∀ dx, d = some dx → ∃ fs, H dx = some (exd dx fs)) ∧ ExcC K C ∧ (∀ u, RelV c u → u = cv) ∧ PySem.W.kitOne K (.ref C) cv = some b ∧ Q (.bl b) H
theorem call_isX {X : Cx} : CallR X (.builtin "isinstance") (rIsX X.K) := by
  intro pins s σ H xs us Q I r h
  obtain ⟨a, D, d, c, cv, b, rfl, ea, hd, C, hcv, e, q⟩ := h
  cases r with
  | cons rx rr =>
    cases rr with
    | cons rt rr =>
      cases rr
      cases rx
      have ec := hcv _ rt
      subst ec
      obtain ⟨t1, hget⟩ := exo_at I.hok ea
      obtain ⟨od, J⟩ : ∃ od, PySem.W.InstAt s.heap a ({ cls := .ref D, dict := d, data := .fields #[.ref t1, .none, .none, .none, .bool false, .none] } : Obj) D od := by
        cases d with
        | none => exact ⟨none, hget, rfl, rfl, trivial⟩
        | some dx =>
          obtain ⟨fs, e2⟩ := hd dx rfl
          obtain ⟨mA, hns, _⟩ := exd_at I.hok e2
          obtain ⟨od, ho2, _⟩ := lookIn_ns hns
          exact ⟨some od, hget, rfl, rfl, ho2⟩
      have hcl : (PySem.W.clsIn X.K D).isSome = true := by
        obtain ⟨cd, hc, _⟩ := PySem.W.any_some C.hd
        rw [hc]
        rfl
      exact PySem.W.kia_one (PySem.W.kitx_exc hcl C.hg C.hk C.hs C.ha C.hn C.ht C.hm) I.kIn J e (fun z => nomatch z) fun tk => ⟨.bl b, H, I.kept (t' := tk) fun _ _ z => z, rfl, q⟩
def fIsX (K : PySem.W.Frag) (u : Value) : D → Wm D
  | .exc C _ _ => fun Kd _ n => ExcC K C ∧ ∃ b, PySem.W.kitOne K (.ref C) u = some b ∧ Kd (.bl b) n
  | _ => Wm.fail
theorem DE.isiE {ι : Type} {X : ι → Cx} {W : WX} {a T : Expr} {c : V} {u : Value} {t : TD D} {p pos : Pos} {K : PySem.W.Frag} (hK : ∀ i, (X i).K = K) (hT : ∀ i, PE (X i) T (tC c)) (hc : ∀ u', RelV c u' → u' = u) (hg : ∀ i, Gl (X i) "isinstance") (hm : ∀ i, (X i).mg "isinstance" = none) (h : DE X W a t)
    (h1 : ∀ i, starEach [a, T] (X i).env = (false, eval a (X i).env) :: starEach [T] (X i).env := by intro _; rfl) (h2 : ∀ i, starEach [T] (X i).env = (false, eval T (X i).env) :: starEach [] (X i).env := by intro _; rfl)
    (hpl : ∀ i, (backTo pos (starEach [T] (X i).env)).any (·.1) = false := by intro _; rfl) : DE X W (.Call (.Name "isinstance" p) [a, T] [] pos) (fun ρ => do fIsX K u (← t ρ)) := by
  obtain ⟨te, pe, r⟩ := h
  refine ⟨tCB (rIsX K) (tCons te (tCons (tC c) tNil)), fun i => by rw [← hK i]; exact pe_callB call_isX (hg i) (hm i) (by decide +kernel) (pa_cons (pe i) (pa_cons (hT i) pa_nil (h2 i)) (h1 i)) (by decide) (by decide) (h1 i) (hpl i), fun F H n σ ρ Kd Kx Q hs ht hq hx => ?_⟩
  refine r F H n σ ρ _ Kx _ hs ht (fun v d F1 H1 n1 g1 hv ht1 => ?_) hx
  cases d with
  | exc C ns ds =>
    obtain ⟨ok, b, e, hk⟩ := ht1
    cases hv with
    | exc fa ha fd hd z l => exact ⟨_, C, _, c, u, b, rfl, ha, (fun dx e' => by cases e'; exact ⟨_, hd⟩), ok, hc, e, hq _ _ F1 H1 n1 g1 (.bl b) hk⟩
    | exc0 fa ha => exact ⟨_, C, _, c, u, b, rfl, ha, (fun dx e' => by cases e'), ok, hc, e, hq _ _ F1 H1 n1 g1 (.bl b) hk⟩
  | _ => exact ht1.elim
theorem relv_ref {a : Addr} : ∀ u', RelV (.ref a) u' → u' = Value.ref a := fun _ h => h

/-! ### try: .. except C: return True -/
def dTryR (K : PySem.W.Frag) (C : Addr) (d : D) (t : TDS) : TDS := fun E ρ n => t { E with ex := fun x ρ' n' => ∃ b, PySem.W.exmOne K (.ref x.C) (.ref C) = some b ∧ (b = true → E.rt d n') ∧ (b = false → E.ex x ρ' n') } ρ n
theorem DS.tryR {ι : Type} {X : ι → Cx} {W : WX} {K : PySem.W.Frag} {x : Str} {C : Addr} {bb : Bool} {body suite : List Stmt} {b₀ : Stmt} {np pos pos' : Pos} {t : TDS} (hK : ∀ k, (X k).K = K) (hs : ∀ k, (X k).stack = (X k).env :: (X k).outer) (hf : ∀ k, (X k).env.frame = some (X k).env.locals) (hc : ∀ k, Names (X k) x (.ref C)) (tk : ∀ k, Takes (X k) W)
    (hb : ∀ W' : WX, DSs (tryX X W') W' body t) (hsu : ∀ k (a : Addr) (oe : Obj) (pn : List (Addr × Obj)), PSs ((X k).suite a ((a, oe) :: pn)) (b₀ :: suite) (tRet (tC (.bl bb)))) :
    DS X W (.Try body [.ExceptHandler (some (.Name x np)) none (b₀ :: suite) pos'] [] [] pos) (dTryR K C (.bl bb) t) := by
  refine ⟨_, fun k => by
    have h := ps_try_only (X := X k) (pos := pos) (pos' := pos') (np := np) (tb := fun W' => Classical.choose (hb W').ex) (ts := fun _ _ _ => tRet (tC (.bl bb))) (Wout := W) (hs k) (hf k) (hc k) (tk k) (fun W' pn xe tk' _ => (Classical.choose_spec (hb W').ex).1 ⟨(k, pn, xe), tk'⟩) (fun a oe cls d pn _ _ => hsu k a oe pn)
    rw [hK k] at h
    exact h, fun B F H m σ ρ E Z s h eo => ?_⟩
  refine (Classical.choose_spec (hb (wOnly K (.ref C) (fun _ _ _ => tRet (tC (.bl bb))) W Z)).ex).2 B F H m σ ρ _ Z s h ⟨eo.nx, eo.bk, eo.ct, eo.rt, fun cls od x σ' ρ' F' H' n' s' l hx he => ?_⟩
  obtain ⟨b, e, hy, hn⟩ := he
  obtain ⟨rfl, _⟩ := id hx
  exact ⟨b, e, fun e1 a na => eo.rt _ (.bl bb) _ _ n' s'.grow (.bl bb) (hy e1), fun e1 => eo.ex _ od x σ' ρ' F' H' n' s' l hx (hn e1)⟩
theorem s_tryR {K : PySem.W.Frag} {C : Addr} {d : D} {t : TDS} {E : DEnds} {ρ : Env'} {n : Nat} : dTryR K C d t E ρ n = t { E with ex := fun x ρ' n' => ∃ b, PySem.W.exmOne K (.ref x.C) (.ref C) = some b ∧ (b = true → E.rt d n') ∧ (b = false → E.ex x ρ' n') } ρ n := rfl
/-! ### an __init__ without fields -/
theorem init0_ok {P : Program} {w : World} {K : PySem.W.Frag} {mg : Str → Option Value} {base : Heap} {x qual msg : Str} {st : Stmt} {f C : Addr} {fd : FuncData} {N ps : List Str} {k : Nat} (F : Fun K x qual st f fd) (S : FnScope N ps (defScope st)) (T : OexC K C) (hps : ps.length = 1)
    (hbody : ∀ (cdv : Value) (A : Around) (outer : List Env) (s : Shared) (H : Hp) (E : XK), PSs (cxOf (L2.CX P w) P w K mg base N qual (defScope st) f cdv A outer s H E) (defBody st) (tDrop (tVeI K (tCons (tVar 0) (tCons (tC (.str msg)) tNil))))) :
    FnOk P w K mg base (L2.CX P w) (k + 1) f fd ps (spInit0 C) := by
  refine Fun.okX F S (fun vs H Q E h => ?_) fun cdv A outer s H vs Q E hr h => ?_
  · obtain ⟨a, rfl, _⟩ := h
    rw [hps]
    rfl
  · obtain ⟨a, rfl, ea, hq⟩ := h
    exact ⟨_, hbody cdv A outer s H E, _, rfl, a, C, [.str msg], rfl, by simp, T, ea, hq⟩
/-- what of an own error must be seen that it may be made by place and by name -/
structure ErrV (P : Program) (w : World) (K : PySem.W.Frag) (mg : Str → Option Value) (base : Heap) (x : Str) (C : Addr) (fs : List Str) (k : Nat) : Prop where
  ex : ∃ fI fd ps, OexC K C ∧ PySem.W.findIn K (.ref C) "__init__" = some (some (.ref fI)) ∧ PySem.W.typeIn K (.ref fI) = some (.type "function") ∧ FnOk P w K mg base (L2.CX P w) k fI fd ps (spInit C fs) ∧ Binds K fd ps [] ∧ KwB K fd ps fs ∧ ps.length = fs.length + 1 ∧ mg x = some (.ref C)
structure Err0 (P : Program) (w : World) (K : PySem.W.Frag) (mg : Str → Option Value) (base : Heap) (x : Str) (C : Addr) (k : Nat) : Prop where
  ex : ∃ fI fd ps, OexC K C ∧ PySem.W.findIn K (.ref C) "__init__" = some (some (.ref fI)) ∧ PySem.W.typeIn K (.ref fI) = some (.type "function") ∧ FnOk P w K mg base (L2.CX P w) k fI fd ps (spInit0 C) ∧ Binds K fd ps [] ∧ mg x = some (.ref C)
section
variable {P : Program} {w : World} {K : PySem.W.Frag} {mg : Str → Option Value} {base h : Heap}
theorem errV_mk {x qual msg : Str} {st : Stmt} {C f : Addr} {ps fs : List Str} {oc : Value} {od an : Option Addr} {osl : Array (Option Value)} {kV doc pm cdv ct : Value} (X : K.In h) (G : h.Ns mainGlobals mg) (a : PySem.W.nsIn K mainGlobals x = some (some (.ref C))) (T : OexC K C)
    (iC : PySem.W.findIn K (.ref C) "__init__" = some (some (.ref f))) (tI : PySem.W.typeIn K (.ref f) = some (.type "function")) (l : K.lookup f = some ⟨oc, od, .func (PySem.W.fnOf "__init__" qual (defArgs st) (defBody st) (defScope st) .none kV doc pm an cdv ct), osl⟩) (c : PySem.W.codeIn K cdv qual = true) (k : PySem.W.keepIn K (.ref f) = true)
    (no : fs.all (fun y => decide (PySem.W.findIn K (.ref C) y = some none)) = true) (hb : ∀ fd, Fun K "__init__" qual st f fd → Binds K fd ps [])
    (hkw : ∀ (self : Value) (ws : List Value), ws.length = fs.length → bindArgs (PySem.W.fnOf "__init__" qual (defArgs st) (defBody st) (defScope st) .none kV doc pm an cdv ct) ⟨[self], fs.reverse.zip ws⟩ = pure (ps.zip (self :: ws.reverse)))
    (S : FnScope ps ps (defScope st)) (hf : fs ≠ []) (hps : ps.length = fs.length + 1) (hz : fs.length ≤ 800)
    (hbody : ∀ (cdv : Value) (A : Around) (outer : List Env) (s : Shared) (H : Hp) (E : XK), PSs (cxOf (L2.CX P w) P w K mg base ps qual (defScope st) f cdv A outer s H E) (defBody st) (tInit K msg fs)) : ErrV P w K mg base x C fs 1 :=
  have F := fun_mk (st := st) l c k
  ⟨f, _, ps, T, iC, tI, init_ok (k := 0) F S T hf hps hz (fun y hy => by
    have := List.all_eq_true.mp no _ hy
    simpa using this) hbody, hb _ F, fun _ self ws _ hl => .of_eq (hkw self ws hl), hps, PySem.W.mg_of X G a⟩
theorem err0_mk {x qual msg : Str} {st : Stmt} {C f : Addr} {ps : List Str} {oc : Value} {od an : Option Addr} {osl : Array (Option Value)} {kV doc pm cdv ct : Value} (X : K.In h) (G : h.Ns mainGlobals mg) (a : PySem.W.nsIn K mainGlobals x = some (some (.ref C))) (T : OexC K C)
    (iC : PySem.W.findIn K (.ref C) "__init__" = some (some (.ref f))) (tI : PySem.W.typeIn K (.ref f) = some (.type "function")) (l : K.lookup f = some ⟨oc, od, .func (PySem.W.fnOf "__init__" qual (defArgs st) (defBody st) (defScope st) .none kV doc pm an cdv ct), osl⟩) (c : PySem.W.codeIn K cdv qual = true) (k : PySem.W.keepIn K (.ref f) = true)
    (hb : ∀ fd, Fun K "__init__" qual st f fd → Binds K fd ps []) (S : FnScope ps ps (defScope st)) (hps : ps.length = 1)
    (hbody : ∀ (cdv : Value) (A : Around) (outer : List Env) (s : Shared) (H : Hp) (E : XK), PSs (cxOf (L2.CX P w) P w K mg base ps qual (defScope st) f cdv A outer s H E) (defBody st) (tDrop (tVeI K (tCons (tVar 0) (tCons (tC (.str msg)) tNil))))) : Err0 P w K mg base x C 1 :=
  have F := fun_mk (st := st) l c k
  ⟨f, _, ps, T, iC, tI, init0_ok (k := 0) F S T hps hbody, hb _ F, PySem.W.mg_of X G a⟩
end
end DL


set_option maxRecDepth 100000
set_option maxHeartbeats 2000000
/-! DL22: repr of rows with dicts within; {"k": i}. Own work over HandS. -/
namespace DL.Rp
open PySem
/-- no dict of them is sys.modules -/
def NoSys (h : Heap) (as : List Addr) : Prop := ∀ a ∈ as, a = sysModules → ∀ o, h.get? a = some o → o.cls ≠ .type "dict"
section
variable {prog : Program} {w : World} {h₀ : Heap}
mutual

theorem rk_of : ∀ {v : Value} {d : PyData} {as : List Addr}, Reads h₀ v d as → d.showable = true → NoSys h₀ as → d.shown.length ≤ sizeLine → ∃ ls, ReadAtMost h₀ d.depth ls ∧ ReprK prog w ls h₀ d.depth v d.shown
  | _, _, _, .none, _, _, _ => ⟨[], (fun _ h => nomatch h), by simp only [PyData.shown]; exact .of_is ReprIs.none _ _ _⟩
  | _, _, _, .bool b, _, _, _ => ⟨[], (fun _ h => nomatch h), by simp only [PyData.shown]; exact .of_is (ReprIs.bool b) _ _ _⟩
  | _, _, _, .int i t, okS, _, _ => ⟨[], (fun _ h => nomatch h), by simp only [PyData.shown]; exact .of_is (ReprIs.int t (by simpa [PyData.showable] using okS)) _ _ _⟩
  | _, _, _, .str x t, _, _, okZ => ⟨[], (fun _ h => nomatch h), by simp only [PyData.shown]; exact .of_is (ReprIs.str x t (by simpa only [PyData.shown] using okZ)) _ _ _⟩
  | _, _, _, .list (a := a) (vs := vs) (xs := xs) q1 q2 q3 q4, okS, okM, okZ => by
    have okZ' : (listText (PyData.shownAll xs)).length ≤ sizeLine := by simpa only [PyData.shown] using okZ
    obtain ⟨ls, rb, rk⟩ := rka_of q4 (by simpa [PyData.showable] using okS) (fun c hc => okM c (List.mem_cons_of_mem _ hc)) (fun t ht => Nat.le_trans (listText_mem_le ht) okZ')
    have r : Reads h₀ (.ref a) (.list xs) _ := .list q1 q2 q3 q4
    have noA : a ∉ ls := not_mem_of_deeper r (by simp only [PyData.depth]; omega) rb
    refine ⟨a :: ls, ReadAtMost.cons r (by simp only [PyData.depth]; omega) rb, ?_⟩
    simp only [PyData.depth, PyData.shown]
    obtain ⟨l⟩ := vs
    cases l with
    | nil =>
      have h4' : ReadsAll h₀ [] xs _ := q4
      cases h4'
      simp only [PyData.shownAll, listText_nil]
      exact ReprK.listEmpty q1 q2 q3
    | cons x l => exact ReprK.list q1 q2 q3 noA (by simpa using rk.length_eq) (fun i y e => rk.item i y (by simpa using e))
  | _, _, _, .tuple (a := a) (xs := xs) q1 q2 q3 q4, okS, okM, okZ => by
    have okZ' : (tupleText (PyData.shownAll xs)).length ≤ sizeLine := by simpa only [PyData.shown] using okZ
    obtain ⟨ls, rb, rk⟩ := rka_of q4 (by simpa [PyData.showable] using okS) okM (fun t ht => Nat.le_trans (tupleText_mem_le ht) okZ')
    have r : Reads h₀ (.ref a) (.tuple xs) _ := .tuple q1 q2 q3 q4
    have noA : a ∉ ls := not_mem_of_deeper r (by simp only [PyData.depth]; omega) rb
    refine ⟨a :: ls, ReadAtMost.cons r (by simp only [PyData.depth]; omega) rb, ?_⟩
    simp only [PyData.depth, PyData.shown]
    exact ReprK.tuple q1 q2 q3 noA rk
  | _, _, _, .dict (a := a) (es := ents) (kvs := prs) (as := la) (bs := lb) q1 q2 q3 q4 q5, okS, okM, okZ => by
    have okZ' : (dictText (PyData.shownKv prs)).length ≤ sizeLine := by simpa only [PyData.shown] using okZ
    obtain ⟨okS1, okS2⟩ := PyData.showableKv_split prs (by simpa [PyData.showable] using okS)
    obtain ⟨l1, rb1, rk1⟩ := rka_of q4 okS1 (fun c hc => okM c (List.mem_cons_of_mem _ (List.mem_append_left _ hc))) (fun t ht => let ⟨p, hp, hl⟩ := PyData.shownKv_key_le prs t ht; Nat.le_trans hl (Nat.le_trans (dictText_mem_le hp) okZ'))
    obtain ⟨l2, rb2, rk2⟩ := rka_of q5 okS2 (fun c hc => okM c (List.mem_cons_of_mem _ (List.mem_append_right _ hc))) (fun t ht => let ⟨p, hp, hl⟩ := PyData.shownKv_val_le prs t ht; Nat.le_trans hl (Nat.le_trans (dictText_mem_le hp) okZ'))
    have r : Reads h₀ (.ref a) (.dict prs) _ := .dict q1 q2 q3 q4 q5
    have rb : ReadAtMost h₀ (PyData.depthKv prs) (l1 ++ l2) := (rb1.mono (PyData.depthAll_keys_le prs)).append (rb2.mono (PyData.depthAll_vals_le prs))
    have noA : a ∉ l1 ++ l2 := not_mem_of_deeper r (by simp only [PyData.depth]; omega) rb
    have noS : (a == sysModules) = false := beq_eq_false_iff_ne.mpr fun e => okM a (List.mem_cons_self ..) e _ q1 q2
    refine ⟨a :: (l1 ++ l2), ReadAtMost.cons r (by simp only [PyData.depth]; omega) rb, ?_⟩
    simp only [PyData.depth, PyData.shown, PyData.shownKv_eq]
    exact ReprK.dict q1 q2 q3 noS noA (ReprEntriesK.of_two ents.toList _ _
      (rk1.more_le (fun b rb => List.mem_append_left _ rb) (PyData.depthAll_keys_le prs)) (rk2.more_le (fun b rb => List.mem_append_right _ rb) (PyData.depthAll_vals_le prs)))
theorem rka_of : ∀ {vs : List Value} {ds : List PyData} {as : List Addr}, ReadsAll h₀ vs ds as → PyData.showableAll ds = true → NoSys h₀ as → (∀ t ∈ PyData.shownAll ds, t.length ≤ sizeLine) →
    ∃ ls, ReadAtMost h₀ (PyData.depthAll ds) ls ∧ ReprAllK prog w ls h₀ (PyData.depthAll ds) vs (PyData.shownAll ds)
  | _, _, _, .nil, _, _, _ => ⟨[], (fun _ h => nomatch h), by simp only [PyData.shownAll]; exact .nil⟩
  | _, _, _, .cons (d := d) (ds := ds) r rs, okS, okM, okZ => by
    have hs' : d.showable = true ∧ PyData.showableAll ds = true := by simpa [PyData.showableAll] using okS
    obtain ⟨l1, rb1, rk1⟩ := rk_of r hs'.1 (fun c hc => okM c (List.mem_append_left _ hc)) (okZ _ (by simp only [PyData.shownAll]; exact List.mem_cons_self ..))
    obtain ⟨l2, rb2, rk2⟩ := rka_of rs hs'.2 (fun c hc => okM c (List.mem_append_right _ hc)) (fun t ht => okZ t (by simp only [PyData.shownAll]; exact List.mem_cons_of_mem _ ht))
    refine ⟨l1 ++ l2, ?_, ?_⟩
    · intro b mb
      simp only [PyData.depthAll]
      rcases List.mem_append.mp mb with mb | mb
      · obtain ⟨dd, aa, rr, de⟩ := rb1 b mb
        exact ⟨dd, aa, rr, Nat.le_trans de (Nat.le_max_left _ _)⟩
      · obtain ⟨dd, aa, rr, de⟩ := rb2 b mb
        exact ⟨dd, aa, rr, Nat.le_trans de (Nat.le_max_right _ _)⟩
    · simp only [PyData.depthAll, PyData.shownAll]
      exact .cons ((rk1.more fun b rb => List.mem_append_left _ rb).level_le (Nat.le_max_left _ _)) (rk2.more_le (fun b rb => List.mem_append_right _ rb) (Nat.le_max_right _ _))
end

end
section
variable {prog : Program} {w : World} {h₀ : Heap} {a : Addr} {d : PyData} {as : List Addr}
theorem shows_by (r : Reads h₀ (.ref a) d as) (okS : d.showable = true) (okM : NoSys h₀ as)
    (okL : d.shown.length ≤ sizeLine := by size_fits) : ∃ T ir, ShowsBy prog w h₀ a d T ir := by
  cases r with
  | list q1 q2 q3 q4 =>
    rename_i o vs n xs bs₀
    have okZ' : (listText (PyData.shownAll xs)).length ≤ sizeLine := by simpa only [PyData.shown] using okL
    obtain ⟨ls, rb, rk⟩ := rka_of (prog := prog) (w := w) q4 (by simpa [PyData.showable] using okS) (fun c hc => okM c (List.mem_cons_of_mem _ hc)) (fun t ht => Nat.le_trans (listText_mem_le ht) okZ')
    have noA : a ∉ ls := not_mem_of_deeper (.list q1 q2 q3 q4) (by simp only [PyData.depth]; omega) rb
    refine ⟨"list", "list.__repr__", F.slot_list_repr.toG, F.slot_list_str, F.slot_list_format, fun s kept => ⟨o, kept _ _ q1, q2⟩, fun A E s Q gu un kept fin => ?_⟩
    simp only [PyData.depth] at un
    simp only [PyData.shown] at fin
    obtain ⟨l⟩ := vs
    cases l with
    | nil =>
      have h4' : ReadsAll h₀ [] xs _ := q4
      cases h4'
      simp only [PyData.shownAll, listText_nil] at fin
      exact call_list_repr_empty ⟨o, kept _ _ q1, q2⟩ (kept _ _ q1) q3 (fin s.heap _ _ fun _ _ e => e)
    | cons x l =>
      exact call_list_reprK q1 q2 q3 noA (by simpa using rk.length_eq) (fun i y e => rk.item i y (by simpa using e)) gu (fun b _ => Clear.nil b) un kept fin okZ'
  | tuple q1 q2 q3 q4 =>
    rename_i o vs n xs
    have okZ' : (tupleText (PyData.shownAll xs)).length ≤ sizeLine := by simpa only [PyData.shown] using okL
    obtain ⟨ls, rb, rk⟩ := rka_of (prog := prog) (w := w) q4 (by simpa [PyData.showable] using okS) okM (fun t ht => Nat.le_trans (tupleText_mem_le ht) okZ')
    have noA : a ∉ ls := not_mem_of_deeper (.tuple q1 q2 q3 q4) (by simp only [PyData.depth]; omega) rb
    refine ⟨"tuple", "tuple.__repr__", F.slot_tuple_repr, F.slot_tuple_str, F.slot_tuple_format, fun s kept => ⟨o, kept _ _ q1, q2⟩, fun A E s Q gu un kept fin => ?_⟩
    simp only [PyData.depth] at un
    simp only [PyData.shown] at fin
    exact call_tuple_reprK q1 q2 q3 noA rk gu (fun b _ => Clear.nil b) un kept fin okZ'
  | dict q1 q2 q3 q4 q5 =>
    rename_i o ents n prs la lb
    have okZ' : (dictText (PyData.shownKv prs)).length ≤ sizeLine := by simpa only [PyData.shown] using okL
    obtain ⟨okS1, okS2⟩ := PyData.showableKv_split prs (by simpa [PyData.showable] using okS)
    obtain ⟨l1, rb1, rk1⟩ := rka_of (prog := prog) (w := w) q4 okS1 (fun c hc => okM c (List.mem_cons_of_mem _ (List.mem_append_left _ hc))) (fun t ht => let ⟨p, hp, hl⟩ := PyData.shownKv_key_le prs t ht; Nat.le_trans hl (Nat.le_trans (dictText_mem_le hp) okZ'))
    obtain ⟨l2, rb2, rk2⟩ := rka_of (prog := prog) (w := w) q5 okS2 (fun c hc => okM c (List.mem_cons_of_mem _ (List.mem_append_right _ hc))) (fun t ht => let ⟨p, hp, hl⟩ := PyData.shownKv_val_le prs t ht; Nat.le_trans hl (Nat.le_trans (dictText_mem_le hp) okZ'))
    have rb : ReadAtMost h₀ (PyData.depthKv prs) (l1 ++ l2) := (rb1.mono (PyData.depthAll_keys_le prs)).append (rb2.mono (PyData.depthAll_vals_le prs))
    have noA : a ∉ l1 ++ l2 := not_mem_of_deeper (.dict q1 q2 q3 q4 q5) (by simp only [PyData.depth]; omega) rb
    have noS : (a == sysModules) = false := beq_eq_false_iff_ne.mpr fun e => okM a (List.mem_cons_self ..) e _ q1 q2
    refine ⟨"dict", "dict.__repr__", F.slot_dict_repr, F.slot_dict_str, F.slot_dict_format, fun s kept => ⟨o, kept _ _ q1, q2⟩, fun A E s Q gu un kept fin => ?_⟩
    simp only [PyData.depth] at un
    simp only [PyData.shown, PyData.shownKv_eq] at fin
    exact call_dict_reprK q1 q2 q3 noS noA (ReprEntriesK.of_two ents.toList _ _
      (rk1.more_le (fun b rb => List.mem_append_left _ rb) (PyData.depthAll_keys_le prs)) (rk2.more_le (fun b rb => List.mem_append_right _ rb) (PyData.depthAll_vals_le prs))) gu (fun b _ => Clear.nil b) un kept fin (by rw [← PyData.shownKv_eq]; exact okZ')

variable {A : Around} {E : Value → Shared → Prop} {s : Shared} {Q : Value → Shared → Prop}
theorem repr_by (r : Reads h₀ (.ref a) d as) (okS : d.showable = true) (okM : NoSys h₀ as) (gu : A.guards = some []) (un : A.units + (d.depth + 1) < cLine) (kept : ∀ b o, h₀.get? b = some o → s.heap.get? b = some o)
    (fin : ∀ h' u tk, (∀ b o, s.heap.get? b = some o → h'.get? b = some o) → Q (.str d.shown u) { s with heap := h', toks := tk })
    (okL : d.shown.length ≤ sizeLine := by size_fits) : wpAny (model prog w) A (call (.builtin "repr") [.ref a]) Q E s := by
  obtain ⟨T, ir, SB⟩ := shows_by (prog := prog) (w := w) r okS okM okL
  exact call_repr_slot (by omega) (SB.typeIs s kept) SB.slotRepr (SB.call A.in1 E s _ gu (by show A.units + 1 + d.depth < cLine; omega) kept fun h' u tk rk => ⟨_, _, rfl, fin h' u tk rk⟩)

end
end DL.Rp
namespace DL
open PySem PySem.Spec PyProof.Rows L2
mutual
/-- may be shown: no objects -/
def showD : D → Bool
  | .non => true
  | .bl _ => true
  | .int _ => true
  | .str _ => true
  | .tup ds => showL ds
  | .lst ds => showL ds
  | .dic ks ds => decide (ks.length = ds.length) && showL ds
  | .obj _ _ _ => false
  | .exc _ _ _ => false
  | .pen => false
  | .clo _ _ _ => false
  | .fnA _ => false
  | .scr _ _ _ => false
def showL : List D → Bool
  | [] => true
  | d :: ds => showD d && showL ds
end
def keyP : Key → PyData
  | .inl i => .int i
  | .inr x => .str x
theorem pyD_dic {ks : List Key} {ds : List D} : pyD (.dic ks ds) = .dict ((ks.map keyP).zip (pyL ds)) := by
  unfold pyD
  have e : (ks.map fun k => match k with | .inl i => PyData.int i | .inr x => PyData.str x) = ks.map keyP := by
    refine List.map_congr_left fun k _ => ?_
    cases k <;> rfl
  exact congrArg (fun z => PyData.dict (z.zip (pyL ds))) e
theorem pyL_len : ∀ {ds : List D}, (pyL ds).length = ds.length
  | [] => by unfold pyL; rfl
  | d :: ds => by unfold pyL; rw [List.length_cons, List.length_cons, pyL_len]
theorem reads_keys {P : Program} {w : World} {h : Heap} : ∀ {es : List DictEntry} {vs : List (Key × Value)} {kvs : List (Key × V)}, PySem.Pairs (mixKind P w) es vs → KV kvs vs → ReadsAll h (es.map (·.key)) ((kvs.map (·.1)).map keyP) [] ∧ Vals (kvs.map (·.2)) (es.map (·.val))
  | _, _, _, .nil, .nil => ⟨.nil, .nil⟩
  | e :: es, kv :: vs, q :: kvs, .cons hk hv r, .cons h1 t => by
    obtain ⟨a, b⟩ := reads_keys (h := h) r t
    obtain ⟨e1, r1⟩ := h1
    refine ⟨?_, .cons (by show RelV q.2 e.val; rw [hv]; exact r1) b⟩
    have hk : keyIs kv.1 e.key = true := hk
    rw [← e1] at hk
    have k1 : Reads h e.key (keyP q.1) [] := by
      rcases keyIs_shape hk with ⟨i, tk, ek, ev⟩ | ⟨x, tk, ek, ev⟩
      · rw [ek, ev]; exact .int i tk
      · rw [ek, ev]; exact .str x tk
    exact ReadsAll.cons (as := []) (bs := []) k1 a
theorem nosys_nil {h : Heap} : Rp.NoSys h [] := fun _ hc => by cases hc
mutual
theorem Has.readsX {P : Program} {w : World} {h : Heap} {F : Addr → Prop} {H : Hp} (ok : HOk P w H h) : ∀ {v : V} {d : D} {u : Value}, Has F H v d → RelV v u → showD d = true → ∃ as, Reads h u (pyD d) as ∧ Rp.NoSys h as
  | _, _, _, .non, r, _ => by cases r; unfold pyD; exact ⟨[], .none, nosys_nil⟩
  | _, _, _, .bl b, r, _ => by cases r; unfold pyD; exact ⟨[], .bool b, nosys_nil⟩
  | _, _, _, .int i, r, _ => by obtain ⟨t, rfl⟩ := r; unfold pyD; exact ⟨[], .int i t, nosys_nil⟩
  | _, _, _, .str x, r, _ => by obtain ⟨t, rfl⟩ := r; unfold pyD; exact ⟨[], .str x t, nosys_nil⟩
  | _, _, _, .tup (a := a) f hh l, r, e => by
    cases r
    unfold showD at e
    obtain ⟨_, its, rv, o, ho, hc, n, hd⟩ := (show ObjOk P w H h a (.tup _) from ok a _ hh)
    obtain ⟨as, hr, hn'⟩ := HasL.readsX ok l rv e
    unfold pyD
    exact ⟨as, .tuple ho hc hd (by simpa using hr), hn'⟩
  | _, _, _, .lst (a := a) f hh l, r, e => by
    cases r
    unfold showD at e
    obtain ⟨_, its, n, rv, ho⟩ := (show ObjOk P w H h a (.lst _) from ok a _ hh)
    obtain ⟨as, hr, hn'⟩ := HasL.readsX ok l rv e
    unfold pyD
    refine ⟨a :: as, .list ho rfl rfl (by simpa using hr), fun c hc e o ho2 => ?_⟩
    rcases List.mem_cons.mp hc with z | z
    · rw [z, ho] at ho2
      cases ho2
      intro q
      have q : Value.type "list" = Value.type "dict" := q
      injection q with q
      exact absurd q (by decide)
    · exact hn' c z e o ho2
  | _, _, _, .dic (a := a) (kvs := kvs) (ks := ks) (ds := ds) f hh q k l, r, e => by
    cases r
    unfold showD at e
    obtain ⟨e1, e2⟩ := Bool.and_eq_true_iff.mp e
    have e1 := of_decide_eq_true e1
    obtain ⟨_, hs, vs, rel, o, es, ep, ho, hx, hd, _, hp, _⟩ := (show ObjOk P w H h a (.dK kvs) from ok a _ hh)
    obtain ⟨rk, rv⟩ := reads_keys (h := h) hp rel
    obtain ⟨bs, hr, hn'⟩ := HasL.readsX ok l rv e2
    rw [pyD_dic]
    have l1 : (ks.map keyP).length = (pyL ds).length := by rw [List.length_map, pyL_len, e1]
    refine ⟨a :: [] ++ bs, .dict (as := []) (bs := bs) ho hx.1 hd ?_ ?_, fun c hc e o ho2 => ?_⟩
    · rw [List.map_fst_zip (by omega), ← k]
      simpa using rk
    · rw [List.map_snd_zip (by omega)]
      simpa using hr
    · rcases List.mem_cons.mp hc with z | z
      · rw [z] at e
        exact absurd e (beq_eq_false_iff_ne.mp hs)
      · exact hn' c z e o ho2
  | _, _, _, .obj _ _ _ _, _, e => by unfold showD at e; cases e
  | _, _, _, .pen _ _ _ _ _ _, _, e => by unfold showD at e; cases e
  | _, _, _, .clo0 _ _ _ _, _, e => by unfold showD at e; cases e
  | _, _, _, .clo1 _ _ _ _ _ _ _, _, e => by unfold showD at e; cases e
  | _, _, _, .fnA _, _, e => by unfold showD at e; cases e
  | _, _, _, .exc _ _ _ _ _ _, _, e => by unfold showD at e; cases e
  | _, _, _, .exc0 _ _, _, e => by unfold showD at e; cases e
  | _, _, _, .scr _ _, _, e => by unfold showD at e; cases e
theorem HasL.readsX {P : Program} {w : World} {h : Heap} {F : Addr → Prop} {H : Hp} (ok : HOk P w H h) : ∀ {vs : List V} {ds : List D} {us : List Value}, HasL F H vs ds → Vals vs us → showL ds = true → ∃ as, ReadsAll h us (pyL ds) as ∧ Rp.NoSys h as
  | _, _, _, .nil, r, _ => by cases r; unfold pyL; exact ⟨[], .nil, nosys_nil⟩
  | _, _, _, .cons hh l, r, e => by
    unfold showL at e
    obtain ⟨e1, e2⟩ := Bool.and_eq_true_iff.mp e
    cases r with
    | cons r1 r2 =>
      obtain ⟨as, q1, n1⟩ := Has.readsX ok hh r1 e1
      obtain ⟨bs, q2, n2⟩ := HasL.readsX ok l r2 e2
      unfold pyL
      exact ⟨as ++ bs, .cons q1 q2, fun c hc => (List.mem_append.mp hc).elim (n1 c) (n2 c)⟩
end
theorem reads_immX {prog : Program} {w : World} {A : Around} {E : Value → Shared → Prop} {s : Shared} {Q : Value → Shared → Prop} {u : Value} {d : PyData} {as : List Addr} (r : Reads s.heap u d as) (hs : d.showable = true) (hn : Rp.NoSys s.heap as) (hg : A.guards = some []) (hu : A.units + (d.depth + 1) < cLine)
    (hsz : d.shown.length ≤ sizeLine) (hQ : ∀ h' t tk, (∀ b o, s.heap.get? b = some o → h'.get? b = some o) → Q (.str d.shown t) { s with heap := h', toks := tk }) : wpAny (model prog w) A (call (.builtin "repr") [u]) Q E s := by
  cases r with
  | none => exact PySem.P.repr_of_none (hQ s.heap _ _ fun _ _ e => e)
  | bool b => exact PySem.P.repr_of_bool (hQ s.heap _ _ fun _ _ e => e)
  | int i t => exact PySem.P.repr_of_int (of_decide_eq_true hs) (hQ s.heap _ _ fun _ _ e => e)
  | str x t => exact PySem.P.repr_of_str (hQ s.heap _ _ fun _ _ e => e) hsz
  | list h1 h2 h3 h4 => exact Rp.repr_by (.list h1 h2 h3 h4) hs hn hg hu (fun _ _ e => e) hQ hsz
  | tuple h1 h2 h3 h4 => exact Rp.repr_by (.tuple h1 h2 h3 h4) hs hn hg hu (fun _ _ e => e) hQ hsz
  | dict h1 h2 h3 h4 h5 => exact Rp.repr_by (.dict h1 h2 h3 h4 h5) hs hn hg hu (fun _ _ e => e) hQ hsz
structure ShowsX (d : D) : Prop where
  ok : showD d = true
  show_ : (pyD d).showable = true
  dep : (pyD d).depth ≤ 40
  len : (pyD d).shown.length ≤ sizeLine
/-- small, and may be shown -/
structure SmallX (d : D) : Prop where
  ok : showD d = true
  show_ : (pyD d).showable = true
  short : (pyD d).leavesShort 202 = true
  dep : (pyD d).depth ≤ 10
  bulk : (pyD d).bulk ≤ 100
def rReprX : List V → Hp → VK → Prop := fun vs H Q => ∃ (x : V) (d : D) (F : Addr → Prop), vs = [x] ∧ Has F H x d ∧ ShowsX d ∧ Q (.str (shw d)) H
section
variable {X : Cx}
theorem call_reprX (hg : X.A.guards = some []) (hu : X.A.units + 64 < cLine) : CallR X (.builtin "repr") rReprX := by
  intro pins s σ H xs us Q I r h
  obtain ⟨x, d, F, rfl, hd, sh, q⟩ := h
  obtain ⟨u, rfl, ru⟩ := vals1 r
  have dep := sh.dep
  obtain ⟨as, rd, hn⟩ := hd.readsX I.hok ru sh.ok
  exact reads_immX rd sh.show_ hn hg (by omega) sh.len fun h' t tk k => ⟨.str _, H, I.kept k, ⟨_, rfl⟩, q⟩
end
def fReprX : List D → Wm D
  | [d] => do Wm.need (ShowsX d); pure (.str (shw d))
  | _ => Wm.fail
theorem sem_reprX : SemL rReprX fReprX := by
  intro F H n xs as Kd Q pb hx ht hq
  cases hx with
  | nil => exact ht.elim
  | cons h1 h2 =>
    cases h2 with
    | nil => exact ⟨_, _, F, rfl, h1, ht.1, hq _ _ F H n (.refl pb) (.str _) ht.2⟩
    | cons _ _ => exact ht.elim
theorem fReprX_at {d : D} {K : D → Nat → Prop} {X : XD → Nat → Prop} {n : Nat} : fReprX [d] K X n = (ShowsX d ∧ K (.str (shw d)) n) := rfl
/-- {"k": i} -/
theorem DE.dic1 {ι : Type} {X : ι → Cx} {W : WX} {x : Str} {i : Int} {j1 j2 : Nat} {p1 p2 pos : Pos} (hx : (x == ("cells" : Str)) = false) : DE X W (.Dict [some (.Constant (.str x) j1 p1)] [.Constant (.int i) j2 p2] pos) (fun _ => pure (.dic [.inr x] [.int i])) := by
  refine ⟨_, fun k => pe_disp (pps_cons pe_str pe_int pps_nil) (by rfl) (by rfl) (by simp) (by simp), fun F H n σ ρ Kd Kx Q hs ht hq hx' p hp => ?_⟩
  refine ⟨upd_same, [(.inr x, .int i)], rfl, by simp, ?_⟩
  rw [upd_upd]
  have g : Grow F H n (plusF F p) (upd H p (.dK (mergeK [] [(.inr x, .int i)]))) n := .laid hs.pb hp (.dK hx)
  exact hq _ (.dic [.inr x] [.int i]) _ _ n g (.dic plusF_same upd_same hx rfl (.cons (.int i) .nil)) ht
/-- a, b, c = a list -/
def dgLst (m : Nat) (gs : TDGs) : TDG := fun d ρ => match d with | .lst ds => if ds.length = m then gs ds ρ else none | _ => none
theorem DG.lst {ι : Type} {X : ι → Cx} {es : List Expr} {k m : Nat} {pos : Pos} {gs : TDGs} {ts : List Nat} {K : PySem.W.Frag} (hK : ∀ i, (X i).K = K) (hc : ∀ i, (X i).calm = true) (h : DGs X es gs ts)
    (hn : ∀ i, (assignEach es (X i).env).length = m := by intro _; rfl) (hst : ∀ i, (assignEach es (X i).env).findIdx? (·.1) = none := by intro _; rfl) :
    DG X (.Tuple es k pos) (dgLst m gs) ts := by
  obtain ⟨tg, p, r⟩ := h
  refine ⟨gLst K m tg, fun i => by rw [← hK i]; exact pg_lst (hc i) (p i) (hn i) (hst i), fun F H n σ ρ ρ' v d Q s hv e hq => ?_⟩
  cases hv with
  | @lst a vs ds f ha hl =>
    have e : (if ds.length = m then gs ds ρ else none) = some ρ' := e
    by_cases hm : ds.length = m
    · rw [if_pos hm] at e
      exact ⟨a, vs, rfl, .of ha, by rw [hl.len]; exact hm, r F H n σ ρ ρ' vs ds Q s hl e hq⟩
    · rw [if_neg hm] at e
      cases e
  | _ => cases e
theorem g_lst3 {g : TDGs} {a b c : D} {ρ : Env'} : dgLst 3 g (.lst [a, b, c]) ρ = g [a, b, c] ρ := rfl
/-! ### the classes of errors -/
def excB (K : PySem.W.Frag) (D : Addr) : Bool := decide (PySem.W.findIn K (.ref D) "__getattribute__" = some (some (.builtin "BaseException.__getattribute__"))) && (decide (PySem.W.findIn K (.ref D) "__getattr__" = some none) && (decide (PySem.W.subIn K (.ref D) (.type "BaseException") = some true) && (PySem.W.hasDictIn K D && (decide (PySem.W.findIn K (.ref D) "__class__" = some (some (.builtin "object.__class__"))) &&
  (decide (PySem.W.specialIn K (.builtin "object.__class__") "__get__" = some (some (.builtin "getset_descriptor.__get__"))) && (decide (PySem.W.takesIn K (.builtin "object.__class__") = some true) && decide (PySem.W.mroIn K D (.type "object") = some true)))))))
theorem excB_ok {K : PySem.W.Frag} {D : Addr} (h : excB K D = true) : ExcC K D := by
  simp only [excB, Bool.and_eq_true, decide_eq_true_eq] at h
  obtain ⟨h1, h2, h3, h4, h5, h6, h7, h8⟩ := h
  exact ⟨h1, h2, h3, h4, h5, h6, h7, h8⟩
/-- each is of its own class alone; all are of the class CD -/
def kindsB (K : PySem.W.Frag) (CD : Addr) (L : List (Str × Addr)) : Bool := L.all fun p => excB K p.2 && (decide (PySem.W.kitOne K (.ref p.2) (.ref CD) = some true) && L.all fun q => decide (PySem.W.kitOne K (.ref p.2) (.ref q.2) = some (decide (p.1 = q.1))))
theorem kindsB_ok {K : PySem.W.Frag} {CD : Addr} {L : List (Str × Addr)} (h : kindsB K CD L = true) {p : Str × Addr} (hp : p ∈ L) : ExcC K p.2 ∧ PySem.W.kitOne K (.ref p.2) (.ref CD) = some true ∧ ∀ q ∈ L, PySem.W.kitOne K (.ref p.2) (.ref q.2) = some (decide (p.1 = q.1)) := by
  have h := List.all_eq_true.mp h p hp
  simp only [Bool.and_eq_true, decide_eq_true_eq, List.all_eq_true] at h
  exact ⟨excB_ok h.1, h.2.1, h.2.2⟩
/-- their fields may be read -/
def attB (K : PySem.W.Frag) (L : List (Addr × List Str)) : Bool := L.all fun p => xfB K p.1 && p.2.all fun f => decide (PySem.W.findIn K (.ref p.1) f = some none)
theorem attB_ok {K : PySem.W.Frag} {L : List (Addr × List Str)} (h : attB K L = true) {C : Addr} {fs : List Str} (hp : (C, fs) ∈ L) {f : Str} (hf : f ∈ fs) : XfC K C ∧ PySem.W.findIn K (.ref C) f = some none := by
  have h := List.all_eq_true.mp h _ hp
  simp only [Bool.and_eq_true, decide_eq_true_eq, List.all_eq_true] at h
  exact ⟨xfB_ok h.1, h.2 f hf⟩
end DL


set_option maxRecDepth 100000
set_option maxHeartbeats 2000000

namespace L00
open PySem PySem.Spec PyProof.Rows L2 DL
def topS (i : Nat) : Stmt := PySem.Challenge.pw_drawproofs_k00_errors_made_by_hand.main.body.getD i (.Pass ⟨0, 0, 0, 0⟩)
abbrev s__law_pen : Stmt := topS 17
theorem sc__law_pen : FnScope ["script", "fold", "cell"] ["script"] (defScope s__law_pen) := ⟨rfl, rfl, rfl, by decide +kernel, rfl, by decide +kernel, by decide +kernel⟩
abbrev s__law_draw : Stmt := topS 18
theorem sc__law_draw : FnScope ["pen", "many", "cell", "digit", "blend"] ["pen", "many"] (defScope s__law_draw) := ⟨rfl, rfl, rfl, by decide +kernel, rfl, by decide +kernel, by decide +kernel⟩
abbrev s__law_pick : Stmt := topS 19
theorem sc__law_pick : FnScope ["pen", "some"] ["pen", "some"] (defScope s__law_pick) := ⟨rfl, rfl, rfl, by decide +kernel, rfl, by decide +kernel, by decide +kernel⟩
abbrev s__law_values : Stmt := topS 20
theorem sc__law_values : FnScope ["pen", "deep", "k"] ["pen"] (defScope s__law_values) := ⟨rfl, rfl, rfl, by decide +kernel, rfl, by decide +kernel, by decide +kernel⟩
abbrev s__law_kinds_of : Stmt := topS 21
theorem sc__law_kinds_of : FnScope ["fault", "found"] ["fault"] (defScope s__law_kinds_of) := ⟨rfl, rfl, rfl, by decide +kernel, rfl, by decide +kernel, by decide +kernel⟩
abbrev s__law_alone : Stmt := topS 22
theorem sc__law_alone : FnScope ["name", "fault", "due", "found"] ["name", "fault", "due", "found"] (defScope s__law_alone) := ⟨rfl, rfl, rfl, by decide +kernel, rfl, by decide +kernel, by decide +kernel⟩
abbrev s__law_first_right : Stmt := topS 23
theorem sc__law_first_right : FnScope ["a", "b", "c", "rows", "one", "two", "name", "fault", "due", "found"] ["a", "b", "c"] (defScope s__law_first_right) := ⟨rfl, rfl, rfl, by decide +kernel, rfl, by decide +kernel, by decide +kernel⟩
abbrev s__law_last_right : Stmt := topS 24
theorem sc__law_last_right : FnScope ["a", "b", "c", "rows", "one", "two", "name", "fault", "due", "found"] ["a", "b", "c"] (defScope s__law_last_right) := ⟨rfl, rfl, rfl, by decide +kernel, rfl, by decide +kernel, by decide +kernel⟩
abbrev s__law_is_caught : Stmt := topS 25
theorem sc__law_is_caught : FnScope ["a", "b"] ["a", "b"] (defScope s__law_is_caught) := ⟨rfl, rfl, rfl, by decide +kernel, rfl, by decide +kernel, by decide +kernel⟩
abbrev s_law : Stmt := topS 26
theorem sc_law : FnScope ["script", "pen", "a", "b", "c"] ["script"] (defScope s_law) := ⟨rfl, rfl, rfl, by decide +kernel, rfl, by decide +kernel, by decide +kernel⟩
abbrev fs_BadNumber : List Str := ["what", "number"]
abbrev fs_BadText : List Str := ["line", "column"]
abbrev fs_BadPoly : List Str := ["value"]
abbrev fs_BadTower : List Str := ["what", "value"]
abbrev fs_BadRow : List Str := ["row"]
abbrev fs_BadTable : List Str := ["table"]
abbrev fs_BadPaper : List Str := ["value"]
abbrev fs_Unlike : List Str := ["what"]
abbrev fs_TooMany : List Str := ["what", "many", "limit"]
abbrev fs_BadName : List Str := ["name"]
abbrev fs_NoName : List Str := ["name"]
abbrev fs_TakenName : List Str := ["name"]
abbrev fs_NothingToUndo : List Str := []
abbrev fs_NothingToRedo : List Str := []
abbrev KINDS (C_BadNumber C_BadText C_BadPoly C_BadTower C_BadRow C_BadTable C_BadPaper C_Unlike C_TooMany C_BadName C_NoName C_TakenName C_NothingToUndo C_NothingToRedo : Addr) : List (Str × Addr) := [("BadNumber", C_BadNumber), ("BadText", C_BadText), ("BadPoly", C_BadPoly), ("BadTower", C_BadTower), ("BadRow", C_BadRow), ("BadTable", C_BadTable), ("BadPaper", C_BadPaper), ("Unlike", C_Unlike), ("TooMany", C_TooMany), ("BadName", C_BadName), ("NoName", C_NoName), ("TakenName", C_TakenName), ("NothingToUndo", C_NothingToUndo), ("NothingToRedo", C_NothingToRedo)]
theorem ifT {p : Prop} [Decidable p] {a b : Prop} (hp : p) (h : a) : if p then a else b := by rw [if_pos hp]; exact h
theorem ifF {p : Prop} [Decidable p] {a b : Prop} (hp : ¬ p) (h : b) : if p then a else b := by rw [if_neg hp]; exact h
theorem seq_split {A R : TDS} {E : DEnds} {ρ : Env'} {n : Nat} (I : Env' → Nat → Prop) (h2 : ∀ ρ' n', I ρ' n' → R E ρ' n') (h1 : ∀ nx : Env' → Nat → Prop, (∀ ρ' n', I ρ' n' → nx ρ' n') → A { E with nx := nx } ρ n) : dSeq A R E ρ n := h1 _ h2
def w__law_pen (Kf : PySem.W.Frag) : List D → Wm D
  | [.scr K' ns _] => fun K _ n => (K' = Kf ∧ ns.length ≤ 63) ∧ K .pen n
  | _ => Wm.fail
def w__law_pick : List D → Wm D
  | [.pen, .lst ds] => fun K _ n => (0 < ds.length ∧ ds.length ≤ 1000 ∧ n < 1099511627776) ∧ ∀ d ∈ ds, K d (n + 1)
  | _ => Wm.fail
abbrev w__law_draw := drawW
abbrev DEEP : List D := [.tup [.int 1, .int 2], .lst [.int 3, .lst [.int 4]], .dic [.inr "a"] [.int 1], .str "", .str "abc", .int 0, .int (-7), .bl true, .non, .int (10 ^ (41 : Int).toNat), .tup [], .tup [.tup []], .tup [.str "x", .non]]
def w__law_values : List D → Wm D := fun ds K _ n => ds = [.pen] ∧ n ≤ 1000 ∧ ∀ a ∈ DEEP, ∀ b ∈ DEEP, ∀ c ∈ DEEP, K (.lst [a, b, c]) (n + 1 + 1 + 1)
def w_kinds (L : List (Str × Addr)) : List D → Wm D := fun ds K _ n => ∃ (nm : Str) (C : Addr) (ns : List Str) (fs : List D), ds = [.exc C ns fs] ∧ (nm, C) ∈ L ∧ K (.lst [.str nm]) n
def w_alone (L : List (Str × Addr)) : List D → Wm D := fun ds K _ n => ∃ (nm : Str) (C : Addr) (ns : List Str) (fs : List D) (d : D), ds = [.str nm, .exc C ns fs, d, d] ∧ (nm, C) ∈ L ∧ ShowsX d ∧ K (.bl true) n
def w_right : List D → Wm D := fun ds K _ n => ∃ a b c : D, ds = [a, b, c] ∧ a ∈ DEEP ∧ b ∈ DEEP ∧ c ∈ DEEP ∧ K (.bl true) n
def w_caught : List D → Wm D := fun ds K _ n => ∃ a b : D, ds = [a, b] ∧ K (.bl true) n
def w_law (Kf : PySem.W.Frag) : List D → Wm D := fun ds Kd _ n => ∃ ns tabs, ds = [.scr Kf ns tabs] ∧ ns.length ≤ 63 ∧ n = 0 ∧ ∀ n', Kd (.bl true) n'
/-- the names told so far -/
def accK (nm : Str) (qs : List Str) : List D := (qs.filter fun q => decide (nm = q)).map D.str
theorem accK_snoc {nm q : Str} {qs : List Str} : accK nm (qs ++ [q]) = if nm = q then accK nm qs ++ [.str q] else accK nm qs := by
  unfold accK
  rw [List.filter_append, List.map_append]
  by_cases h : nm = q
  · simp [h]
  · simp [h]
theorem accK_len {nm : Str} {qs : List Str} : (accK nm qs).length ≤ qs.length := by
  unfold accK
  rw [List.length_map]
  exact List.length_filter_le _ _
theorem eqv_int {i j : Int} : PyData.eqv (.int i) (.int j) = decide (i = j) := by
  rw [Bool.eq_iff_iff]
  simp [PyData.eqv]
theorem eqv_str {i j : Str} : PyData.eqv (.str i) (.str j) = decide (i = j) := by
  rw [Bool.eq_iff_iff]
  simp [PyData.eqv]
theorem eqv_bool {i j : Bool} : PyData.eqv (.bool i) (.bool j) = decide (i = j) := by
  rw [Bool.eq_iff_iff]
  simp [PyData.eqv]
theorem scl_eqD {d e : D} {c : Bool} (h : sclE d e = some c) : eqD d e = c := by
  unfold sclE at h
  split at h
  · cases h; unfold eqD pyD; exact eqv_int
  · cases h; unfold eqD pyD; exact eqv_str
  · cases h; unfold eqD pyD; exact eqv_bool
  · cases h; unfold eqD pyD; rfl
  · cases h
theorem fEq_data {d e : D} {K : D → Nat → Prop} {X : XD → Nat → Prop} {n : Nat} (h1 : EqOk d) (h2 : EqOk e) (h : K (.bl (eqD d e)) n) : fEqA d e K X n := by
  unfold fEqA
  cases q : sclE d e with
  | some c => rw [scl_eqD q] at h; exact h
  | none => exact ⟨⟨h1, h2⟩, h⟩
theorem eqOk_one {x : Str} (h : PyData.strOk x = true) : EqOk (.lst [.str x]) := ⟨by simp [flatD, flatL], by
  unfold SeqAt.shaped
  simp [pyD, pyL, PyData.canLay0, PyData.canLayAll0, PyData.depth, PyData.depthAll, h]⟩
theorem eqD_one {x : Str} : eqD (.lst [.str x]) (.lst [.str x]) = true := by
  unfold eqD
  simp [pyD, pyL, PyData.eqv, PyData.eqvAll]
theorem deep_small {d : D} (h : d ∈ DEEP) : SmallX d := by
  simp only [List.mem_cons, List.not_mem_nil, or_false] at h
  rcases h with rfl | rfl | rfl | rfl | rfl | rfl | rfl | rfl | rfl | rfl | rfl | rfl | rfl <;> exact ⟨by decide +kernel, by decide +kernel, by decide +kernel, by decide +kernel, by decide +kernel⟩
theorem shows_lst {ds : List D} (hl : ds.length ≤ 3) (h : ∀ d ∈ ds, d ∈ DEEP) : ShowsX (.lst ds) := by
  have key : ∀ es : List D, (∀ d ∈ es, d ∈ DEEP) → showL es = true ∧ PyData.showableAll (pyL es) = true ∧ PyData.leavesShortAll 202 (pyL es) = true ∧ PyData.depthAll (pyL es) ≤ 10 ∧ PyData.bulkAll (pyL es) ≤ 200 * es.length := by
    intro es
    induction es with
    | nil => intro _; simp [showL, pyL, PyData.showableAll, PyData.leavesShortAll, PyData.depthAll, PyData.bulkAll]
    | cons e es ih =>
      intro h
      obtain ⟨a1, a2, a3, a4, a5⟩ := deep_small (h e List.mem_cons_self)
      obtain ⟨b1, b2, b3, b4, b5⟩ := ih fun d hd => h d (List.mem_cons_of_mem _ hd)
      refine ⟨?_, ?_, ?_, ?_, ?_⟩
      · simp [showL, a1, b1]
      · simp [pyL, PyData.showableAll, a2, b2]
      · simp [pyL, PyData.leavesShortAll, a3, b3]
      · simp [pyL, PyData.depthAll]; omega
      · simp [pyL, PyData.bulkAll]; omega
  obtain ⟨k1, k2, k3, k4, k5⟩ := key ds h
  have hs : (pyD (.lst ds)).leavesShort 202 = true := by simp [pyD, PyData.leavesShort, k3]
  have hb := PyData.shown_le_bulk 202 (by decide) (pyD (.lst ds)) hs
  have hbb : (pyD (.lst ds)).bulk ≤ 700 := by
    simp [pyD, PyData.bulk]
    omega
  refine ⟨by simp [showD, k1], by simp [pyD, PyData.showable, k2], by simp [pyD, PyData.depth]; omega, ?_⟩
  rw [sizeLine_eq]
  omega
theorem forall_one {p : D → Prop} {a : D} (h : p a) : ∀ d ∈ [a], p d := fun d hd => by rw [List.mem_singleton.mp hd]; exact h
theorem forall_more {p : D → Prop} {a : D} {l : List D} (h : p a) (k : ∀ d ∈ l, p d) : ∀ d ∈ a :: l, p d := fun d hd => by
  rcases List.mem_cons.mp hd with e | e
  · rw [e]; exact h
  · exact k d e

section
variable {P : Program} {w : World} {K : PySem.W.Frag} {mg : Str → Option Value} {base : Heap}
variable {C_BadNumber C_BadText C_BadPoly C_BadTower C_BadRow C_BadTable C_BadPaper C_Unlike C_TooMany C_BadName C_NoName C_TakenName C_NothingToUndo C_NothingToRedo C_DrawError : Addr}


theorem ok__law_pen  (F : DefF K mg "_law_pen" s__law_pen ["script"]) (m_int : mg "int" = none) (m_list : mg "list" = none) : DefG P w K mg base "_law_pen" ["script"] (0 + 1) (w__law_pen K) := by
  refine def_ok (k := 0) F sc__law_pen (fun f cdv A outer s H E hg hr => (DSs.cons (DS.set (k := 1) (fun _ => sc__law_pen.nd) (fun _ => rfl) (fun _ => (.inl rfl)) DE.int)
    (DSs.cons (DS.for (fun _ => passes_of rfl) (fun _ => rfl) (DI.scr (fun _ => rfl) (DE.var fun _ => pv 0)) (DG.name (k := 2) (fun _ => pg_name sc__law_pen.nd rfl (.inl rfl))) (DSs.one (DS.set (k := 1) (fun _ => sc__law_pen.nd) (fun _ => rfl) (fun _ => (.inl rfl)) (DE.op2 (fun _ _ _ p q => pe_op op_modA p q) sem_int (DE.opL (fun _ _ ha => pe_callTy call_int1 (by rfl) m_int (by decide +kernel) ha) sem_intC (DA.cons (DE.op2 (fun _ _ _ p q => pe_op op_addA p q) sem_add (DE.op2 (fun _ _ _ p q => pe_op op_mulW p q) sem_int (DE.var fun _ => pv 1) DE.int) (DE.var fun _ => pv 2)) DA.nil)) DE.int))))
    (DSs.one (DS.ret (DE.pen (i := 0) (j := 1) fun _ => pe_disp (pps_cons pe_str (pe_callTy call_list_of (by rfl) m_list (by decide +kernel) (pa_cons (pv 0) pa_nil)) (pps_cons pe_str pe_int (pps_cons pe_str pe_int (pps_cons pe_str pe_int (pps_cons pe_str (pv 1) pps_nil))))) (by rfl) (by rfl) (by simp) (by decide))))))) fun ds Kd Kx n hl h => ?_
  match ds, hl with
  | [x], _ =>
  cases x with
  | scr K' ns ts =>
    obtain ⟨⟨rfl, h1⟩, hk⟩ := h
    simp only [s_body, s_seq, s_next, s_onE, s_onT, s_asg, s_par, s_for, s_raise, s_try, s_asgG, w_bind, w_pure, w_need, w_fail, w_calm, g_0, g_s, fEq_int, fNe_int, fEq_str, fNe_str, fInt_at, fInt0_at, fAdd_int, fCmp_at, fNeg_at, fLen_tup, fLen_lst, fIx_t0, fIx_l0, fIx_t1, fIx_l1, fIntC_at, fAbs_at, fGcd_at, fRepr_at, fBits_at, fIs_at, range_at, List.map_cons, List.map_nil, List.length_cons, List.length_nil, List.cons_append, List.nil_append, List.set_cons_zero, List.set_cons_succ, List.replicate, Nat.reduceAdd, Nat.reduceSub, List.append_nil, dName, true_and, and_true, Nat.zero_add, Nat.sub_self]
    refine forD_inv (fun k ρ n' => n' = n ∧ ∃ (f : Int) (z : Option SV), ρ = [some (.d (.scr K' ns ts)), some (.d (.int f)), z] ∧ 0 ≤ f ∧ f < 999999391) _ _ _ ⟨rfl, 0, _, rfl, by decide, by decide⟩ (fun ρ n' hi => ?_) fun k d ρ n' E' hd hi hnx hbk hrt hex => ?_
    · obtain ⟨rfl, f, z, rfl, f0, f1⟩ := hi
      exact ⟨⟨rfl, h1, f0, by omega⟩, hk⟩
    · obtain ⟨rfl, f, z, rfl, f0, f1⟩ := hi
      obtain ⟨c, _, rfl⟩ := List.mem_map.mp hd
      simp only [s_body, s_seq, s_next, s_onE, s_onT, s_asg, s_par, s_for, s_raise, s_try, s_asgG, w_bind, w_pure, w_need, w_fail, w_calm, g_0, g_s, fEq_int, fNe_int, fEq_str, fNe_str, fInt_at, fInt0_at, fAdd_int, fCmp_at, fNeg_at, fLen_tup, fLen_lst, fIx_t0, fIx_l0, fIx_t1, fIx_l1, fIntC_at, fAbs_at, fGcd_at, fRepr_at, fBits_at, fIs_at, range_at, List.map_cons, List.map_nil, List.length_cons, List.length_nil, List.cons_append, List.nil_append, List.set_cons_zero, List.set_cons_succ, List.replicate, Nat.reduceAdd, Nat.reduceSub, List.append_nil, dName, true_and, and_true, Nat.zero_add, Nat.sub_self]
      refine ⟨wide_mul (a := 30) (b := 8) (by omega) (by decide) (by decide) (by decide) (by decide), (by show (999999391 : Int) ≠ 0; decide), hnx _ _ ⟨rfl, _, _, rfl, ?_, ?_⟩⟩
      · rw [Int.fmod_eq_emod_of_nonneg _ (by decide)]
        exact Int.emod_nonneg _ (by decide)
      · rw [Int.fmod_eq_emod_of_nonneg _ (by decide)]
        exact Int.emod_lt_of_pos _ (by decide)
  | _ => exact h.elim


theorem ok__law_draw  (F : DefF K mg "_law_draw" s__law_draw ["pen", "many"]) (m_len : mg "len" = none) (m_int : mg "int" = none) : DefG P w K mg base "_law_draw" ["pen", "many"] (0 + 1) w__law_draw := by
  exact def_draw (k := 0) F sc__law_draw rfl rfl fun f cdv A outer s H E hg hr => pss_cons (ps_dput hr.room1 (pv 0) pe_str (pe_op op_add (pe_dget hr.room1 (pv 0) pe_str (fun _ _ => rfl)) pe_int) (by rfl))
    (pss_cons (ps_if (pw_and (pt_cmpR op_eq (pe_dget hr.room1 (pv 0) pe_str (fun _ _ => rfl)) pe_int (nomark _)) (pw_and1 (pt_cmpR op_lt (pe_dget hr.room1 (pv 0) pe_str (fun _ _ => rfl)) (pe_callB call_lenA (by rfl) m_len (by decide +kernel) (pa_cons (pe_dget hr.room1 (pv 0) pe_str (fun _ _ => rfl)) pa_nil)) (nomark _)))).pt
      (pss_cons (ps_set (i := 2) sc__law_draw.nd rfl (.inl rfl) (pe_ix ix_seq (pe_dget hr.room1 (pv 0) pe_str (fun _ _ => rfl)) (pe_dget hr.room1 (pv 0) pe_str (fun _ _ => rfl)) (fun _ _ => rfl)))
        (pss_cons (ps_dput hr.room1 (pv 0) pe_str (pe_op op_add (pe_dget hr.room1 (pv 0) pe_str (fun _ _ => rfl)) pe_int) (by rfl))
          (pss_one (ps_if (pt_cmpR op_ge (pv 2) (pe_op op_pow pe_int pe_int) (nomark _))
            (pss_one (ps_dput hr.room1 (pv 0) pe_str (pe_op op_sub (pv 2) (pe_op op_pow pe_int pe_int)) (by rfl)))
            (pss_one (ps_dput hr.room1 (pv 0) pe_str (pe_op op_modN (pe_callTy call_int1 (by rfl) m_int (by decide +kernel) (pa_cons (pe_op op_add (pe_op op_mulW (pe_dget hr.room1 (pv 0) pe_str (fun _ _ => rfl)) pe_int) (pv 2)) pa_nil)) pe_int) (by rfl)))))))
      pss_nil)
    (pss_cons (ps_if (pt_cmpR op_gt (pe_dget hr.room1 (pv 0) pe_str (fun _ _ => rfl)) pe_int (nomark _))
      (pss_cons (ps_set (i := 3) sc__law_draw.nd rfl (.inl rfl) (pe_op op_modN (pe_callTy call_int1 (by rfl) m_int (by decide +kernel) (pa_cons (pe_dget hr.room1 (pv 0) pe_str (fun _ _ => rfl)) pa_nil)) (pv 1)))
        (pss_cons (ps_dput hr.room1 (pv 0) pe_str (pe_op op_fdivA (pe_dget hr.room1 (pv 0) pe_str (fun _ _ => rfl)) (pv 1)) (by rfl)) (pss_one (ps_ret (pv 3)))))
      pss_nil)
    (pss_cons (ps_set (i := 4) sc__law_draw.nd rfl (.inl rfl) (pe_op op_add (pe_op op_add (pe_dget hr.room1 (pv 0) pe_str (fun _ _ => rfl)) (pe_op op_mulW (pe_dget hr.room1 (pv 0) pe_str (fun _ _ => rfl)) pe_int)) pe_int))
    (pss_one (ps_ret (pe_op op_modN (pe_op op_fdivA (pe_callTy call_int1 (by rfl) m_int (by decide +kernel) (pa_cons (pe_op op_modN (pe_op op_pow (pv 4) pe_int) pe_int) pa_nil)) pe_int) (pv 1)))))))

theorem ok__law_pick  (F : DefF K mg "_law_pick" s__law_pick ["pen", "some"]) (h__law_draw : DefG P w K mg base "_law_draw" ["pen", "many"] (1) w__law_draw) (m_len : mg "len" = none) : DefG P w K mg base "_law_pick" ["pen", "some"] (1 + 1) w__law_pick := by
  obtain ⟨f__law_draw, d__law_draw, G__law_draw, n__law_draw, q__law_draw, b__law_draw⟩ := h__law_draw.ex
  refine def_ok (k := 1) F sc__law_pick (fun f cdv A outer s H E hg hr => (DSs.one (DS.ret (DE.op2 (fun _ _ _ p q => pe_ix ix_seq p q (fun _ _ => rfl)) sem_ix (DE.var fun _ => pv 1) (DE.call (fun _ => G__law_draw) (fun _ => hg) (fun _ => hr.mono (by omega)) (fun _ => takes_of rfl rfl rfl rfl) (fun _ => by rfl) (fun _ => n__law_draw) (fun _ => q__law_draw) (fun _ => b__law_draw) (DA.cons (DE.var fun _ => pv 0) (DA.cons (DE.opL (fun _ _ ha => pe_callB call_lenA (by rfl) m_len (by decide +kernel) ha) sem_len (DA.cons (DE.var fun _ => pv 1) DA.nil)) DA.nil))))))) fun ds Kd Kx n hl h => ?_
  match ds, hl with
  | [x, y], _ =>
  cases x with
  | pen =>
    cases y with
    | lst es =>
      obtain ⟨⟨h0, h1, h2⟩, hk⟩ := h
      simp only [s_body, s_seq, s_next, s_onE, s_onT, s_asg, s_par, s_for, s_raise, s_try, s_asgG, w_bind, w_pure, w_need, w_fail, w_calm, g_0, g_s, fEq_int, fNe_int, fEq_str, fNe_str, fInt_at, fInt0_at, fAdd_int, fCmp_at, fNeg_at, fLen_tup, fLen_lst, fIx_t0, fIx_l0, fIx_t1, fIx_l1, fIntC_at, fAbs_at, fGcd_at, fRepr_at, fBits_at, fIs_at, range_at, List.map_cons, List.map_nil, List.length_cons, List.length_nil, List.cons_append, List.nil_append, List.set_cons_zero, List.set_cons_succ, List.replicate, Nat.reduceAdd, Nat.reduceSub, List.append_nil, dName, true_and, and_true, Nat.zero_add, Nat.sub_self]
      refine ⟨by omega, by omega, h2, fun r r0 r1 => ?_⟩
      have hlt : r.toNat < es.length := by omega
      have e : L2.atI es r = some es[r.toNat] := by
        unfold L2.atI L2.ixN
        rw [if_pos r0, if_pos (by omega)]
        simp [hlt]
      show (match L2.atI es r with
        | some d => (pure d : Wm D)
        | none => Wm.fail) _ _ _
      rw [e]
      exact hk _ (List.getElem_mem hlt)
    | _ => exact h.elim
  | _ => exact h.elim


theorem ok__law_values  (F : DefF K mg "_law_values" s__law_values ["pen"]) (m_range : mg "range" = none) (h__law_pick : DefG P w K mg base "_law_pick" ["pen", "some"] (2) w__law_pick) : DefG P w K mg base "_law_values" ["pen"] (2 + 1) w__law_values := by
  obtain ⟨f__law_pick, d__law_pick, G__law_pick, n__law_pick, q__law_pick, b__law_pick⟩ := h__law_pick.ex
  refine def_ok (k := 2) F sc__law_values (fun f cdv A outer s H E hg hr => (DSs.cons (DS.set (k := 1) (fun _ => sc__law_values.nd) (fun _ => rfl) (fun _ => (.inr rfl)) (DE.lst (DA.cons (DE.cst (.tup [.int 1, .int 2]) (by rfl)) (DA.cons (DE.cst (.lst [.int 3, .lst [.int 4]]) (by rfl)) (DA.cons (DE.dic1 (by decide)) (DA.cons DE.str (DA.cons DE.str (DA.cons DE.int (DA.cons (DE.op1 (fun _ _ p => pe_un un_neg p) sem_neg DE.int) (DA.cons DE.bl (DA.cons DE.non (DA.cons (DE.op2 (fun _ _ _ p q => pe_op op_pow p q) sem_int DE.int DE.int) (DA.cons (DE.cst (.tup []) (by rfl)) (DA.cons (DE.cst (.tup [.tup []]) (by rfl)) (DA.cons (DE.cst (.tup [.str "x", .non]) (by rfl)) DA.nil)))))))))))))))
    (DSs.one (DS.ret (DE.lc (own := [("k", 2)]) (fun _ => rfl) (fun _ => sc__law_values.nd) (DI.range1 (fun _ => by rfl) (fun _ => m_range) (DA.cons DE.int DA.nil)) (fun _ => blkOk_by (N := ["pen", "deep", "k"]) (sc := defScope s__law_values) (by decide +kernel)) (DG.name (k := 2) (fun _ => pg_name sc__law_values.nd rfl (.inl rfl))) DTs.nil (DE.call (fun _ => G__law_pick) (fun _ => hg) (fun _ => hr.mono (by omega)) (fun _ => L2.takes0) (fun _ => by rfl) (fun _ => n__law_pick) (fun _ => q__law_pick) (fun _ => b__law_pick) (DA.cons (DE.var fun _ => pv 0) (DA.cons (DE.var fun _ => pv 1) DA.nil)))))))) fun ds Kd Kx n hl h => ?_
  obtain ⟨rfl, hn, hk⟩ := h
  rw [s_body, s_seq, s_asg]
  simp only [w_bind, w_pure, w_calm, fNeg_at, fInt_at]
  refine ⟨⟨by decide, by decide, by decide⟩, fits_small (Nat.le_of_ble_eq_true rfl), ?_⟩
  show onE (dLc _ _ _ _ _) _ _ [some (.d .pen), some (.d (.lst DEEP)), none] n
  obtain ⟨L, hL⟩ : ∃ L, L = DEEP := ⟨_, rfl⟩
  rw [← hL] at hk ⊢
  have l13 : L.length = 13 := by rw [hL]; rfl
  rw [s_onE, s_lc]
  simp only [w_bind, w_pure, w_calm, range_at]
  refine ⟨⟨by decide, by decide⟩, ?_⟩
  show lcD _ _ _ [.int 0, .int 1, .int 2] [some (.d .pen), some (.d (.lst L)), none] _ _ _ _
  simp only [lcD, dName, List.length_cons, List.length_nil, Nat.reduceLT, Nat.reduceAdd, if_true, w_bind, w_pure, w_calm, w_need, g_0, g_s, List.set_cons_succ, List.set_cons_zero]
  exact ⟨trivial, ⟨by omega, by omega, by omega⟩, fun a ha => ⟨by rw [sizeLine_eq]; decide, trivial, ⟨by omega, by omega, by omega⟩, fun b hb => ⟨by rw [sizeLine_eq]; simp, trivial, ⟨by omega, by omega, by omega⟩, fun c hc => ⟨by rw [sizeLine_eq]; simp, hk a ha b hb c hc⟩⟩⟩⟩


theorem ok__law_kinds_of  (F : DefF K mg "_law_kinds_of" s__law_kinds_of ["fault"]) (mC_NothingToRedo : mg "NothingToRedo" = some (.ref C_NothingToRedo)) (m_isinstance : mg "isinstance" = none) (mC_NothingToUndo : mg "NothingToUndo" = some (.ref C_NothingToUndo)) (mC_TakenName : mg "TakenName" = some (.ref C_TakenName)) (mC_NoName : mg "NoName" = some (.ref C_NoName)) (mC_BadName : mg "BadName" = some (.ref C_BadName)) (mC_TooMany : mg "TooMany" = some (.ref C_TooMany)) (mC_Unlike : mg "Unlike" = some (.ref C_Unlike)) (mC_BadPaper : mg "BadPaper" = some (.ref C_BadPaper)) (mC_BadTable : mg "BadTable" = some (.ref C_BadTable)) (mC_BadRow : mg "BadRow" = some (.ref C_BadRow)) (mC_BadTower : mg "BadTower" = some (.ref C_BadTower)) (mC_BadPoly : mg "BadPoly" = some (.ref C_BadPoly)) (mC_BadText : mg "BadText" = some (.ref C_BadText)) (mC_BadNumber : mg "BadNumber" = some (.ref C_BadNumber)) (isk : kindsB K C_DrawError (KINDS C_BadNumber C_BadText C_BadPoly C_BadTower C_BadRow C_BadTable C_BadPaper C_Unlike C_TooMany C_BadName C_NoName C_TakenName C_NothingToUndo C_NothingToRedo) = true) : DefG P w K mg base "_law_kinds_of" ["fault"] (0 + 1) (w_kinds (KINDS C_BadNumber C_BadText C_BadPoly C_BadTower C_BadRow C_BadTable C_BadPaper C_Unlike C_TooMany C_BadName C_NoName C_TakenName C_NothingToUndo C_NothingToRedo)) := by
  refine def_ok (k := 0) F sc__law_kinds_of (fun f cdv A outer s H E hg hr => (DSs.cons (DS.own (k := 1) (fun _ => sc__law_kinds_of.nd) (fun _ => rfl) (fun _ => (.inl rfl)) DA.nil)
    (DSs.cons (DS.ifS (DT.val (DE.isiE (c := .ref C_BadNumber) (fun _ => rfl) (fun _ => pe_glob (v := .ref C_BadNumber) (by rfl) mC_BadNumber rfl) relv_ref (fun _ => by rfl) (fun _ => m_isinstance) (DE.var fun _ => pv 0))) (DSs.one (DS.append (k := 1) (fun _ => rfl) (fun _ => pv 1) DE.str (fun _ _ ha => pe_bm PySem.F.plainAttrs_list PySem.F.slot_list_append PySem.F.type_list_append mt_append (pv 1) ha))) DSs.nil)
    (DSs.cons (DS.ifS (DT.val (DE.isiE (c := .ref C_BadText) (fun _ => rfl) (fun _ => pe_glob (v := .ref C_BadText) (by rfl) mC_BadText rfl) relv_ref (fun _ => by rfl) (fun _ => m_isinstance) (DE.var fun _ => pv 0))) (DSs.one (DS.append (k := 1) (fun _ => rfl) (fun _ => pv 1) DE.str (fun _ _ ha => pe_bm PySem.F.plainAttrs_list PySem.F.slot_list_append PySem.F.type_list_append mt_append (pv 1) ha))) DSs.nil)
    (DSs.cons (DS.ifS (DT.val (DE.isiE (c := .ref C_BadPoly) (fun _ => rfl) (fun _ => pe_glob (v := .ref C_BadPoly) (by rfl) mC_BadPoly rfl) relv_ref (fun _ => by rfl) (fun _ => m_isinstance) (DE.var fun _ => pv 0))) (DSs.one (DS.append (k := 1) (fun _ => rfl) (fun _ => pv 1) DE.str (fun _ _ ha => pe_bm PySem.F.plainAttrs_list PySem.F.slot_list_append PySem.F.type_list_append mt_append (pv 1) ha))) DSs.nil)
    (DSs.cons (DS.ifS (DT.val (DE.isiE (c := .ref C_BadTower) (fun _ => rfl) (fun _ => pe_glob (v := .ref C_BadTower) (by rfl) mC_BadTower rfl) relv_ref (fun _ => by rfl) (fun _ => m_isinstance) (DE.var fun _ => pv 0))) (DSs.one (DS.append (k := 1) (fun _ => rfl) (fun _ => pv 1) DE.str (fun _ _ ha => pe_bm PySem.F.plainAttrs_list PySem.F.slot_list_append PySem.F.type_list_append mt_append (pv 1) ha))) DSs.nil)
    (DSs.cons (DS.ifS (DT.val (DE.isiE (c := .ref C_BadRow) (fun _ => rfl) (fun _ => pe_glob (v := .ref C_BadRow) (by rfl) mC_BadRow rfl) relv_ref (fun _ => by rfl) (fun _ => m_isinstance) (DE.var fun _ => pv 0))) (DSs.one (DS.append (k := 1) (fun _ => rfl) (fun _ => pv 1) DE.str (fun _ _ ha => pe_bm PySem.F.plainAttrs_list PySem.F.slot_list_append PySem.F.type_list_append mt_append (pv 1) ha))) DSs.nil)
    (DSs.cons (DS.ifS (DT.val (DE.isiE (c := .ref C_BadTable) (fun _ => rfl) (fun _ => pe_glob (v := .ref C_BadTable) (by rfl) mC_BadTable rfl) relv_ref (fun _ => by rfl) (fun _ => m_isinstance) (DE.var fun _ => pv 0))) (DSs.one (DS.append (k := 1) (fun _ => rfl) (fun _ => pv 1) DE.str (fun _ _ ha => pe_bm PySem.F.plainAttrs_list PySem.F.slot_list_append PySem.F.type_list_append mt_append (pv 1) ha))) DSs.nil)
    (DSs.cons (DS.ifS (DT.val (DE.isiE (c := .ref C_BadPaper) (fun _ => rfl) (fun _ => pe_glob (v := .ref C_BadPaper) (by rfl) mC_BadPaper rfl) relv_ref (fun _ => by rfl) (fun _ => m_isinstance) (DE.var fun _ => pv 0))) (DSs.one (DS.append (k := 1) (fun _ => rfl) (fun _ => pv 1) DE.str (fun _ _ ha => pe_bm PySem.F.plainAttrs_list PySem.F.slot_list_append PySem.F.type_list_append mt_append (pv 1) ha))) DSs.nil)
    (DSs.cons (DS.ifS (DT.val (DE.isiE (c := .ref C_Unlike) (fun _ => rfl) (fun _ => pe_glob (v := .ref C_Unlike) (by rfl) mC_Unlike rfl) relv_ref (fun _ => by rfl) (fun _ => m_isinstance) (DE.var fun _ => pv 0))) (DSs.one (DS.append (k := 1) (fun _ => rfl) (fun _ => pv 1) DE.str (fun _ _ ha => pe_bm PySem.F.plainAttrs_list PySem.F.slot_list_append PySem.F.type_list_append mt_append (pv 1) ha))) DSs.nil)
    (DSs.cons (DS.ifS (DT.val (DE.isiE (c := .ref C_TooMany) (fun _ => rfl) (fun _ => pe_glob (v := .ref C_TooMany) (by rfl) mC_TooMany rfl) relv_ref (fun _ => by rfl) (fun _ => m_isinstance) (DE.var fun _ => pv 0))) (DSs.one (DS.append (k := 1) (fun _ => rfl) (fun _ => pv 1) DE.str (fun _ _ ha => pe_bm PySem.F.plainAttrs_list PySem.F.slot_list_append PySem.F.type_list_append mt_append (pv 1) ha))) DSs.nil)
    (DSs.cons (DS.ifS (DT.val (DE.isiE (c := .ref C_BadName) (fun _ => rfl) (fun _ => pe_glob (v := .ref C_BadName) (by rfl) mC_BadName rfl) relv_ref (fun _ => by rfl) (fun _ => m_isinstance) (DE.var fun _ => pv 0))) (DSs.one (DS.append (k := 1) (fun _ => rfl) (fun _ => pv 1) DE.str (fun _ _ ha => pe_bm PySem.F.plainAttrs_list PySem.F.slot_list_append PySem.F.type_list_append mt_append (pv 1) ha))) DSs.nil)
    (DSs.cons (DS.ifS (DT.val (DE.isiE (c := .ref C_NoName) (fun _ => rfl) (fun _ => pe_glob (v := .ref C_NoName) (by rfl) mC_NoName rfl) relv_ref (fun _ => by rfl) (fun _ => m_isinstance) (DE.var fun _ => pv 0))) (DSs.one (DS.append (k := 1) (fun _ => rfl) (fun _ => pv 1) DE.str (fun _ _ ha => pe_bm PySem.F.plainAttrs_list PySem.F.slot_list_append PySem.F.type_list_append mt_append (pv 1) ha))) DSs.nil)
    (DSs.cons (DS.ifS (DT.val (DE.isiE (c := .ref C_TakenName) (fun _ => rfl) (fun _ => pe_glob (v := .ref C_TakenName) (by rfl) mC_TakenName rfl) relv_ref (fun _ => by rfl) (fun _ => m_isinstance) (DE.var fun _ => pv 0))) (DSs.one (DS.append (k := 1) (fun _ => rfl) (fun _ => pv 1) DE.str (fun _ _ ha => pe_bm PySem.F.plainAttrs_list PySem.F.slot_list_append PySem.F.type_list_append mt_append (pv 1) ha))) DSs.nil)
    (DSs.cons (DS.ifS (DT.val (DE.isiE (c := .ref C_NothingToUndo) (fun _ => rfl) (fun _ => pe_glob (v := .ref C_NothingToUndo) (by rfl) mC_NothingToUndo rfl) relv_ref (fun _ => by rfl) (fun _ => m_isinstance) (DE.var fun _ => pv 0))) (DSs.one (DS.append (k := 1) (fun _ => rfl) (fun _ => pv 1) DE.str (fun _ _ ha => pe_bm PySem.F.plainAttrs_list PySem.F.slot_list_append PySem.F.type_list_append mt_append (pv 1) ha))) DSs.nil)
    (DSs.cons (DS.ifS (DT.val (DE.isiE (c := .ref C_NothingToRedo) (fun _ => rfl) (fun _ => pe_glob (v := .ref C_NothingToRedo) (by rfl) mC_NothingToRedo rfl) relv_ref (fun _ => by rfl) (fun _ => m_isinstance) (DE.var fun _ => pv 0))) (DSs.one (DS.append (k := 1) (fun _ => rfl) (fun _ => pv 1) DE.str (fun _ _ ha => pe_bm PySem.F.plainAttrs_list PySem.F.slot_list_append PySem.F.type_list_append mt_append (pv 1) ha))) DSs.nil)
    (DSs.freeze 1 (DSs.one (DS.ret (DE.var fun _ => pv 1)))))))))))))))))))) fun ds Kd Kx n hl h => ?_
  obtain ⟨nm, C, ns, fs, rfl, hm, hk⟩ := h
  obtain ⟨ek, ed, eq⟩ := kindsB_ok isk hm
  rw [s_body, s_seq]
  refine own_intro ?_
  refine ⟨fits_small (by simp), ?_⟩
  simp only [List.set_cons_succ, List.set_cons_zero, List.map_cons, List.map_nil, List.length_cons, List.length_nil, List.cons_append, List.nil_append, List.replicate]
  have h0 : accK nm [] = [] := rfl
  rw [← h0]
  refine seq_split (fun ρ' n' => ρ' = [some (.d (.exc C ns fs)), some (.ml (accK nm ["BadNumber"]))] ∧ n' = n) ?R0 (fun nx hnx => ?S0)
  case S0 =>
    simp only [s_onT, s_onE, w_bind, w_pure, w_need, w_calm, g_0, g_s]
    refine ⟨ek, _, eq ("BadNumber", C_BadNumber) (by simp), ?_⟩
    by_cases hq : nm = "BadNumber"
    · refine ifT (by simpa using hq) ?_
      refine app_intro (ds := accK nm []) rfl ?_
      refine ⟨?_, hnx _ _ ⟨?_, rfl⟩⟩
      · refine Nat.lt_of_le_of_lt accK_len ?_
        rw [sizeLine_eq]; simp
      · have e := accK_snoc (nm := nm) (q := "BadNumber") (qs := [])
        rw [if_pos hq] at e
        exact congrArg (fun z => [some (SV.d (D.exc C ns fs)), some (SV.ml z)]) e.symm
    · refine ifF (by simpa using hq) (hnx _ _ ⟨?_, rfl⟩)
      have e := accK_snoc (nm := nm) (q := "BadNumber") (qs := [])
      rw [if_neg hq] at e
      exact congrArg (fun z => [some (SV.d (D.exc C ns fs)), some (SV.ml z)]) e.symm
  intro ρ1 n1 h1
  obtain ⟨e1, e2⟩ := h1
  rw [e1, e2]
  clear e1 e2 ρ1 n1
  refine seq_split (fun ρ' n' => ρ' = [some (.d (.exc C ns fs)), some (.ml (accK nm ["BadNumber", "BadText"]))] ∧ n' = n) ?R1 (fun nx hnx => ?S1)
  case S1 =>
    simp only [s_onT, s_onE, w_bind, w_pure, w_need, w_calm, g_0, g_s]
    refine ⟨ek, _, eq ("BadText", C_BadText) (by simp), ?_⟩
    by_cases hq : nm = "BadText"
    · refine ifT (by simpa using hq) ?_
      refine app_intro (ds := accK nm ["BadNumber"]) rfl ?_
      refine ⟨?_, hnx _ _ ⟨?_, rfl⟩⟩
      · refine Nat.lt_of_le_of_lt accK_len ?_
        rw [sizeLine_eq]; simp
      · have e := accK_snoc (nm := nm) (q := "BadText") (qs := ["BadNumber"])
        rw [if_pos hq] at e
        exact congrArg (fun z => [some (SV.d (D.exc C ns fs)), some (SV.ml z)]) e.symm
    · refine ifF (by simpa using hq) (hnx _ _ ⟨?_, rfl⟩)
      have e := accK_snoc (nm := nm) (q := "BadText") (qs := ["BadNumber"])
      rw [if_neg hq] at e
      exact congrArg (fun z => [some (SV.d (D.exc C ns fs)), some (SV.ml z)]) e.symm
  intro ρ1 n1 h1
  obtain ⟨e1, e2⟩ := h1
  rw [e1, e2]
  clear e1 e2 ρ1 n1
  refine seq_split (fun ρ' n' => ρ' = [some (.d (.exc C ns fs)), some (.ml (accK nm ["BadNumber", "BadText", "BadPoly"]))] ∧ n' = n) ?R2 (fun nx hnx => ?S2)
  case S2 =>
    simp only [s_onT, s_onE, w_bind, w_pure, w_need, w_calm, g_0, g_s]
    refine ⟨ek, _, eq ("BadPoly", C_BadPoly) (by simp), ?_⟩
    by_cases hq : nm = "BadPoly"
    · refine ifT (by simpa using hq) ?_
      refine app_intro (ds := accK nm ["BadNumber", "BadText"]) rfl ?_
      refine ⟨?_, hnx _ _ ⟨?_, rfl⟩⟩
      · refine Nat.lt_of_le_of_lt accK_len ?_
        rw [sizeLine_eq]; simp
      · have e := accK_snoc (nm := nm) (q := "BadPoly") (qs := ["BadNumber", "BadText"])
        rw [if_pos hq] at e
        exact congrArg (fun z => [some (SV.d (D.exc C ns fs)), some (SV.ml z)]) e.symm
    · refine ifF (by simpa using hq) (hnx _ _ ⟨?_, rfl⟩)
      have e := accK_snoc (nm := nm) (q := "BadPoly") (qs := ["BadNumber", "BadText"])
      rw [if_neg hq] at e
      exact congrArg (fun z => [some (SV.d (D.exc C ns fs)), some (SV.ml z)]) e.symm
  intro ρ1 n1 h1
  obtain ⟨e1, e2⟩ := h1
  rw [e1, e2]
  clear e1 e2 ρ1 n1
  refine seq_split (fun ρ' n' => ρ' = [some (.d (.exc C ns fs)), some (.ml (accK nm ["BadNumber", "BadText", "BadPoly", "BadTower"]))] ∧ n' = n) ?R3 (fun nx hnx => ?S3)
  case S3 =>
    simp only [s_onT, s_onE, w_bind, w_pure, w_need, w_calm, g_0, g_s]
    refine ⟨ek, _, eq ("BadTower", C_BadTower) (by simp), ?_⟩
    by_cases hq : nm = "BadTower"
    · refine ifT (by simpa using hq) ?_
      refine app_intro (ds := accK nm ["BadNumber", "BadText", "BadPoly"]) rfl ?_
      refine ⟨?_, hnx _ _ ⟨?_, rfl⟩⟩
      · refine Nat.lt_of_le_of_lt accK_len ?_
        rw [sizeLine_eq]; simp
      · have e := accK_snoc (nm := nm) (q := "BadTower") (qs := ["BadNumber", "BadText", "BadPoly"])
        rw [if_pos hq] at e
        exact congrArg (fun z => [some (SV.d (D.exc C ns fs)), some (SV.ml z)]) e.symm
    · refine ifF (by simpa using hq) (hnx _ _ ⟨?_, rfl⟩)
      have e := accK_snoc (nm := nm) (q := "BadTower") (qs := ["BadNumber", "BadText", "BadPoly"])
      rw [if_neg hq] at e
      exact congrArg (fun z => [some (SV.d (D.exc C ns fs)), some (SV.ml z)]) e.symm
  intro ρ1 n1 h1
  obtain ⟨e1, e2⟩ := h1
  rw [e1, e2]
  clear e1 e2 ρ1 n1
  refine seq_split (fun ρ' n' => ρ' = [some (.d (.exc C ns fs)), some (.ml (accK nm ["BadNumber", "BadText", "BadPoly", "BadTower", "BadRow"]))] ∧ n' = n) ?R4 (fun nx hnx => ?S4)
  case S4 =>
    simp only [s_onT, s_onE, w_bind, w_pure, w_need, w_calm, g_0, g_s]
    refine ⟨ek, _, eq ("BadRow", C_BadRow) (by simp), ?_⟩
    by_cases hq : nm = "BadRow"
    · refine ifT (by simpa using hq) ?_
      refine app_intro (ds := accK nm ["BadNumber", "BadText", "BadPoly", "BadTower"]) rfl ?_
      refine ⟨?_, hnx _ _ ⟨?_, rfl⟩⟩
      · refine Nat.lt_of_le_of_lt accK_len ?_
        rw [sizeLine_eq]; simp
      · have e := accK_snoc (nm := nm) (q := "BadRow") (qs := ["BadNumber", "BadText", "BadPoly", "BadTower"])
        rw [if_pos hq] at e
        exact congrArg (fun z => [some (SV.d (D.exc C ns fs)), some (SV.ml z)]) e.symm
    · refine ifF (by simpa using hq) (hnx _ _ ⟨?_, rfl⟩)
      have e := accK_snoc (nm := nm) (q := "BadRow") (qs := ["BadNumber", "BadText", "BadPoly", "BadTower"])
      rw [if_neg hq] at e
      exact congrArg (fun z => [some (SV.d (D.exc C ns fs)), some (SV.ml z)]) e.symm
  intro ρ1 n1 h1
  obtain ⟨e1, e2⟩ := h1
  rw [e1, e2]
  clear e1 e2 ρ1 n1
  refine seq_split (fun ρ' n' => ρ' = [some (.d (.exc C ns fs)), some (.ml (accK nm ["BadNumber", "BadText", "BadPoly", "BadTower", "BadRow", "BadTable"]))] ∧ n' = n) ?R5 (fun nx hnx => ?S5)
  case S5 =>
    simp only [s_onT, s_onE, w_bind, w_pure, w_need, w_calm, g_0, g_s]
    refine ⟨ek, _, eq ("BadTable", C_BadTable) (by simp), ?_⟩
    by_cases hq : nm = "BadTable"
    · refine ifT (by simpa using hq) ?_
      refine app_intro (ds := accK nm ["BadNumber", "BadText", "BadPoly", "BadTower", "BadRow"]) rfl ?_
      refine ⟨?_, hnx _ _ ⟨?_, rfl⟩⟩
      · refine Nat.lt_of_le_of_lt accK_len ?_
        rw [sizeLine_eq]; simp
      · have e := accK_snoc (nm := nm) (q := "BadTable") (qs := ["BadNumber", "BadText", "BadPoly", "BadTower", "BadRow"])
        rw [if_pos hq] at e
        exact congrArg (fun z => [some (SV.d (D.exc C ns fs)), some (SV.ml z)]) e.symm
    · refine ifF (by simpa using hq) (hnx _ _ ⟨?_, rfl⟩)
      have e := accK_snoc (nm := nm) (q := "BadTable") (qs := ["BadNumber", "BadText", "BadPoly", "BadTower", "BadRow"])
      rw [if_neg hq] at e
      exact congrArg (fun z => [some (SV.d (D.exc C ns fs)), some (SV.ml z)]) e.symm
  intro ρ1 n1 h1
  obtain ⟨e1, e2⟩ := h1
  rw [e1, e2]
  clear e1 e2 ρ1 n1
  refine seq_split (fun ρ' n' => ρ' = [some (.d (.exc C ns fs)), some (.ml (accK nm ["BadNumber", "BadText", "BadPoly", "BadTower", "BadRow", "BadTable", "BadPaper"]))] ∧ n' = n) ?R6 (fun nx hnx => ?S6)
  case S6 =>
    simp only [s_onT, s_onE, w_bind, w_pure, w_need, w_calm, g_0, g_s]
    refine ⟨ek, _, eq ("BadPaper", C_BadPaper) (by simp), ?_⟩
    by_cases hq : nm = "BadPaper"
    · refine ifT (by simpa using hq) ?_
      refine app_intro (ds := accK nm ["BadNumber", "BadText", "BadPoly", "BadTower", "BadRow", "BadTable"]) rfl ?_
      refine ⟨?_, hnx _ _ ⟨?_, rfl⟩⟩
      · refine Nat.lt_of_le_of_lt accK_len ?_
        rw [sizeLine_eq]; simp
      · have e := accK_snoc (nm := nm) (q := "BadPaper") (qs := ["BadNumber", "BadText", "BadPoly", "BadTower", "BadRow", "BadTable"])
        rw [if_pos hq] at e
        exact congrArg (fun z => [some (SV.d (D.exc C ns fs)), some (SV.ml z)]) e.symm
    · refine ifF (by simpa using hq) (hnx _ _ ⟨?_, rfl⟩)
      have e := accK_snoc (nm := nm) (q := "BadPaper") (qs := ["BadNumber", "BadText", "BadPoly", "BadTower", "BadRow", "BadTable"])
      rw [if_neg hq] at e
      exact congrArg (fun z => [some (SV.d (D.exc C ns fs)), some (SV.ml z)]) e.symm
  intro ρ1 n1 h1
  obtain ⟨e1, e2⟩ := h1
  rw [e1, e2]
  clear e1 e2 ρ1 n1
  refine seq_split (fun ρ' n' => ρ' = [some (.d (.exc C ns fs)), some (.ml (accK nm ["BadNumber", "BadText", "BadPoly", "BadTower", "BadRow", "BadTable", "BadPaper", "Unlike"]))] ∧ n' = n) ?R7 (fun nx hnx => ?S7)
  case S7 =>
    simp only [s_onT, s_onE, w_bind, w_pure, w_need, w_calm, g_0, g_s]
    refine ⟨ek, _, eq ("Unlike", C_Unlike) (by simp), ?_⟩
    by_cases hq : nm = "Unlike"
    · refine ifT (by simpa using hq) ?_
      refine app_intro (ds := accK nm ["BadNumber", "BadText", "BadPoly", "BadTower", "BadRow", "BadTable", "BadPaper"]) rfl ?_
      refine ⟨?_, hnx _ _ ⟨?_, rfl⟩⟩
      · refine Nat.lt_of_le_of_lt accK_len ?_
        rw [sizeLine_eq]; simp
      · have e := accK_snoc (nm := nm) (q := "Unlike") (qs := ["BadNumber", "BadText", "BadPoly", "BadTower", "BadRow", "BadTable", "BadPaper"])
        rw [if_pos hq] at e
        exact congrArg (fun z => [some (SV.d (D.exc C ns fs)), some (SV.ml z)]) e.symm
    · refine ifF (by simpa using hq) (hnx _ _ ⟨?_, rfl⟩)
      have e := accK_snoc (nm := nm) (q := "Unlike") (qs := ["BadNumber", "BadText", "BadPoly", "BadTower", "BadRow", "BadTable", "BadPaper"])
      rw [if_neg hq] at e
      exact congrArg (fun z => [some (SV.d (D.exc C ns fs)), some (SV.ml z)]) e.symm
  intro ρ1 n1 h1
  obtain ⟨e1, e2⟩ := h1
  rw [e1, e2]
  clear e1 e2 ρ1 n1
  refine seq_split (fun ρ' n' => ρ' = [some (.d (.exc C ns fs)), some (.ml (accK nm ["BadNumber", "BadText", "BadPoly", "BadTower", "BadRow", "BadTable", "BadPaper", "Unlike", "TooMany"]))] ∧ n' = n) ?R8 (fun nx hnx => ?S8)
  case S8 =>
    simp only [s_onT, s_onE, w_bind, w_pure, w_need, w_calm, g_0, g_s]
    refine ⟨ek, _, eq ("TooMany", C_TooMany) (by simp), ?_⟩
    by_cases hq : nm = "TooMany"
    · refine ifT (by simpa using hq) ?_
      refine app_intro (ds := accK nm ["BadNumber", "BadText", "BadPoly", "BadTower", "BadRow", "BadTable", "BadPaper", "Unlike"]) rfl ?_
      refine ⟨?_, hnx _ _ ⟨?_, rfl⟩⟩
      · refine Nat.lt_of_le_of_lt accK_len ?_
        rw [sizeLine_eq]; simp
      · have e := accK_snoc (nm := nm) (q := "TooMany") (qs := ["BadNumber", "BadText", "BadPoly", "BadTower", "BadRow", "BadTable", "BadPaper", "Unlike"])
        rw [if_pos hq] at e
        exact congrArg (fun z => [some (SV.d (D.exc C ns fs)), some (SV.ml z)]) e.symm
    · refine ifF (by simpa using hq) (hnx _ _ ⟨?_, rfl⟩)
      have e := accK_snoc (nm := nm) (q := "TooMany") (qs := ["BadNumber", "BadText", "BadPoly", "BadTower", "BadRow", "BadTable", "BadPaper", "Unlike"])
      rw [if_neg hq] at e
      exact congrArg (fun z => [some (SV.d (D.exc C ns fs)), some (SV.ml z)]) e.symm
  intro ρ1 n1 h1
  obtain ⟨e1, e2⟩ := h1
  rw [e1, e2]
  clear e1 e2 ρ1 n1
  refine seq_split (fun ρ' n' => ρ' = [some (.d (.exc C ns fs)), some (.ml (accK nm ["BadNumber", "BadText", "BadPoly", "BadTower", "BadRow", "BadTable", "BadPaper", "Unlike", "TooMany", "BadName"]))] ∧ n' = n) ?R9 (fun nx hnx => ?S9)
  case S9 =>
    simp only [s_onT, s_onE, w_bind, w_pure, w_need, w_calm, g_0, g_s]
    refine ⟨ek, _, eq ("BadName", C_BadName) (by simp), ?_⟩
    by_cases hq : nm = "BadName"
    · refine ifT (by simpa using hq) ?_
      refine app_intro (ds := accK nm ["BadNumber", "BadText", "BadPoly", "BadTower", "BadRow", "BadTable", "BadPaper", "Unlike", "TooMany"]) rfl ?_
      refine ⟨?_, hnx _ _ ⟨?_, rfl⟩⟩
      · refine Nat.lt_of_le_of_lt accK_len ?_
        rw [sizeLine_eq]; simp
      · have e := accK_snoc (nm := nm) (q := "BadName") (qs := ["BadNumber", "BadText", "BadPoly", "BadTower", "BadRow", "BadTable", "BadPaper", "Unlike", "TooMany"])
        rw [if_pos hq] at e
        exact congrArg (fun z => [some (SV.d (D.exc C ns fs)), some (SV.ml z)]) e.symm
    · refine ifF (by simpa using hq) (hnx _ _ ⟨?_, rfl⟩)
      have e := accK_snoc (nm := nm) (q := "BadName") (qs := ["BadNumber", "BadText", "BadPoly", "BadTower", "BadRow", "BadTable", "BadPaper", "Unlike", "TooMany"])
      rw [if_neg hq] at e
      exact congrArg (fun z => [some (SV.d (D.exc C ns fs)), some (SV.ml z)]) e.symm
  intro ρ1 n1 h1
  obtain ⟨e1, e2⟩ := h1
  rw [e1, e2]
  clear e1 e2 ρ1 n1
  refine seq_split (fun ρ' n' => ρ' = [some (.d (.exc C ns fs)), some (.ml (accK nm ["BadNumber", "BadText", "BadPoly", "BadTower", "BadRow", "BadTable", "BadPaper", "Unlike", "TooMany", "BadName", "NoName"]))] ∧ n' = n) ?R10 (fun nx hnx => ?S10)
  case S10 =>
    simp only [s_onT, s_onE, w_bind, w_pure, w_need, w_calm, g_0, g_s]
    refine ⟨ek, _, eq ("NoName", C_NoName) (by simp), ?_⟩
    by_cases hq : nm = "NoName"
    · refine ifT (by simpa using hq) ?_
      refine app_intro (ds := accK nm ["BadNumber", "BadText", "BadPoly", "BadTower", "BadRow", "BadTable", "BadPaper", "Unlike", "TooMany", "BadName"]) rfl ?_
      refine ⟨?_, hnx _ _ ⟨?_, rfl⟩⟩
      · refine Nat.lt_of_le_of_lt accK_len ?_
        rw [sizeLine_eq]; simp
      · have e := accK_snoc (nm := nm) (q := "NoName") (qs := ["BadNumber", "BadText", "BadPoly", "BadTower", "BadRow", "BadTable", "BadPaper", "Unlike", "TooMany", "BadName"])
        rw [if_pos hq] at e
        exact congrArg (fun z => [some (SV.d (D.exc C ns fs)), some (SV.ml z)]) e.symm
    · refine ifF (by simpa using hq) (hnx _ _ ⟨?_, rfl⟩)
      have e := accK_snoc (nm := nm) (q := "NoName") (qs := ["BadNumber", "BadText", "BadPoly", "BadTower", "BadRow", "BadTable", "BadPaper", "Unlike", "TooMany", "BadName"])
      rw [if_neg hq] at e
      exact congrArg (fun z => [some (SV.d (D.exc C ns fs)), some (SV.ml z)]) e.symm
  intro ρ1 n1 h1
  obtain ⟨e1, e2⟩ := h1
  rw [e1, e2]
  clear e1 e2 ρ1 n1
  refine seq_split (fun ρ' n' => ρ' = [some (.d (.exc C ns fs)), some (.ml (accK nm ["BadNumber", "BadText", "BadPoly", "BadTower", "BadRow", "BadTable", "BadPaper", "Unlike", "TooMany", "BadName", "NoName", "TakenName"]))] ∧ n' = n) ?R11 (fun nx hnx => ?S11)
  case S11 =>
    simp only [s_onT, s_onE, w_bind, w_pure, w_need, w_calm, g_0, g_s]
    refine ⟨ek, _, eq ("TakenName", C_TakenName) (by simp), ?_⟩
    by_cases hq : nm = "TakenName"
    · refine ifT (by simpa using hq) ?_
      refine app_intro (ds := accK nm ["BadNumber", "BadText", "BadPoly", "BadTower", "BadRow", "BadTable", "BadPaper", "Unlike", "TooMany", "BadName", "NoName"]) rfl ?_
      refine ⟨?_, hnx _ _ ⟨?_, rfl⟩⟩
      · refine Nat.lt_of_le_of_lt accK_len ?_
        rw [sizeLine_eq]; simp
      · have e := accK_snoc (nm := nm) (q := "TakenName") (qs := ["BadNumber", "BadText", "BadPoly", "BadTower", "BadRow", "BadTable", "BadPaper", "Unlike", "TooMany", "BadName", "NoName"])
        rw [if_pos hq] at e
        exact congrArg (fun z => [some (SV.d (D.exc C ns fs)), some (SV.ml z)]) e.symm
    · refine ifF (by simpa using hq) (hnx _ _ ⟨?_, rfl⟩)
      have e := accK_snoc (nm := nm) (q := "TakenName") (qs := ["BadNumber", "BadText", "BadPoly", "BadTower", "BadRow", "BadTable", "BadPaper", "Unlike", "TooMany", "BadName", "NoName"])
      rw [if_neg hq] at e
      exact congrArg (fun z => [some (SV.d (D.exc C ns fs)), some (SV.ml z)]) e.symm
  intro ρ1 n1 h1
  obtain ⟨e1, e2⟩ := h1
  rw [e1, e2]
  clear e1 e2 ρ1 n1
  refine seq_split (fun ρ' n' => ρ' = [some (.d (.exc C ns fs)), some (.ml (accK nm ["BadNumber", "BadText", "BadPoly", "BadTower", "BadRow", "BadTable", "BadPaper", "Unlike", "TooMany", "BadName", "NoName", "TakenName", "NothingToUndo"]))] ∧ n' = n) ?R12 (fun nx hnx => ?S12)
  case S12 =>
    simp only [s_onT, s_onE, w_bind, w_pure, w_need, w_calm, g_0, g_s]
    refine ⟨ek, _, eq ("NothingToUndo", C_NothingToUndo) (by simp), ?_⟩
    by_cases hq : nm = "NothingToUndo"
    · refine ifT (by simpa using hq) ?_
      refine app_intro (ds := accK nm ["BadNumber", "BadText", "BadPoly", "BadTower", "BadRow", "BadTable", "BadPaper", "Unlike", "TooMany", "BadName", "NoName", "TakenName"]) rfl ?_
      refine ⟨?_, hnx _ _ ⟨?_, rfl⟩⟩
      · refine Nat.lt_of_le_of_lt accK_len ?_
        rw [sizeLine_eq]; simp
      · have e := accK_snoc (nm := nm) (q := "NothingToUndo") (qs := ["BadNumber", "BadText", "BadPoly", "BadTower", "BadRow", "BadTable", "BadPaper", "Unlike", "TooMany", "BadName", "NoName", "TakenName"])
        rw [if_pos hq] at e
        exact congrArg (fun z => [some (SV.d (D.exc C ns fs)), some (SV.ml z)]) e.symm
    · refine ifF (by simpa using hq) (hnx _ _ ⟨?_, rfl⟩)
      have e := accK_snoc (nm := nm) (q := "NothingToUndo") (qs := ["BadNumber", "BadText", "BadPoly", "BadTower", "BadRow", "BadTable", "BadPaper", "Unlike", "TooMany", "BadName", "NoName", "TakenName"])
      rw [if_neg hq] at e
      exact congrArg (fun z => [some (SV.d (D.exc C ns fs)), some (SV.ml z)]) e.symm
  intro ρ1 n1 h1
  obtain ⟨e1, e2⟩ := h1
  rw [e1, e2]
  clear e1 e2 ρ1 n1
  refine seq_split (fun ρ' n' => ρ' = [some (.d (.exc C ns fs)), some (.ml (accK nm ["BadNumber", "BadText", "BadPoly", "BadTower", "BadRow", "BadTable", "BadPaper", "Unlike", "TooMany", "BadName", "NoName", "TakenName", "NothingToUndo", "NothingToRedo"]))] ∧ n' = n) ?R13 (fun nx hnx => ?S13)
  case S13 =>
    simp only [s_onT, s_onE, w_bind, w_pure, w_need, w_calm, g_0, g_s]
    refine ⟨ek, _, eq ("NothingToRedo", C_NothingToRedo) (by simp), ?_⟩
    by_cases hq : nm = "NothingToRedo"
    · refine ifT (by simpa using hq) ?_
      refine app_intro (ds := accK nm ["BadNumber", "BadText", "BadPoly", "BadTower", "BadRow", "BadTable", "BadPaper", "Unlike", "TooMany", "BadName", "NoName", "TakenName", "NothingToUndo"]) rfl ?_
      refine ⟨?_, hnx _ _ ⟨?_, rfl⟩⟩
      · refine Nat.lt_of_le_of_lt accK_len ?_
        rw [sizeLine_eq]; simp
      · have e := accK_snoc (nm := nm) (q := "NothingToRedo") (qs := ["BadNumber", "BadText", "BadPoly", "BadTower", "BadRow", "BadTable", "BadPaper", "Unlike", "TooMany", "BadName", "NoName", "TakenName", "NothingToUndo"])
        rw [if_pos hq] at e
        exact congrArg (fun z => [some (SV.d (D.exc C ns fs)), some (SV.ml z)]) e.symm
    · refine ifF (by simpa using hq) (hnx _ _ ⟨?_, rfl⟩)
      have e := accK_snoc (nm := nm) (q := "NothingToRedo") (qs := ["BadNumber", "BadText", "BadPoly", "BadTower", "BadRow", "BadTable", "BadPaper", "Unlike", "TooMany", "BadName", "NoName", "TakenName", "NothingToUndo"])
      rw [if_neg hq] at e
      exact congrArg (fun z => [some (SV.d (D.exc C ns fs)), some (SV.ml z)]) e.symm
  intro ρ1 n1 h1
  obtain ⟨e1, e2⟩ := h1
  rw [e1, e2]
  clear e1 e2 ρ1 n1
  refine frz_intro rfl ?_
  show Kd (.lst (accK nm ["BadNumber", "BadText", "BadPoly", "BadTower", "BadRow", "BadTable", "BadPaper", "Unlike", "TooMany", "BadName", "NoName", "TakenName", "NothingToUndo", "NothingToRedo"])) n
  have e : accK nm ["BadNumber", "BadText", "BadPoly", "BadTower", "BadRow", "BadTable", "BadPaper", "Unlike", "TooMany", "BadName", "NoName", "TakenName", "NothingToUndo", "NothingToRedo"] = [.str nm] := by
    simp only [List.mem_cons, List.not_mem_nil, or_false, Prod.mk.injEq] at hm
    rcases hm with ⟨rfl, _⟩ | ⟨rfl, _⟩ | ⟨rfl, _⟩ | ⟨rfl, _⟩ | ⟨rfl, _⟩ | ⟨rfl, _⟩ | ⟨rfl, _⟩ | ⟨rfl, _⟩ | ⟨rfl, _⟩ | ⟨rfl, _⟩ | ⟨rfl, _⟩ | ⟨rfl, _⟩ | ⟨rfl, _⟩ | ⟨rfl, _⟩ <;> rfl
  rw [e]
  exact hk


theorem ok__law_alone  (F : DefF K mg "_law_alone" s__law_alone ["name", "fault", "due", "found"]) (m_repr : mg "repr" = none) (h__law_kinds_of : DefG P w K mg base "_law_kinds_of" ["fault"] (1) (w_kinds (KINDS C_BadNumber C_BadText C_BadPoly C_BadTower C_BadRow C_BadTable C_BadPaper C_Unlike C_TooMany C_BadName C_NoName C_TakenName C_NothingToUndo C_NothingToRedo))) (mC_DrawError : mg "DrawError" = some (.ref C_DrawError)) (m_isinstance : mg "isinstance" = none) (isk : kindsB K C_DrawError (KINDS C_BadNumber C_BadText C_BadPoly C_BadTower C_BadRow C_BadTable C_BadPaper C_Unlike C_TooMany C_BadName C_NoName C_TakenName C_NothingToUndo C_NothingToRedo) = true) : DefG P w K mg base "_law_alone" ["name", "fault", "due", "found"] (1 + 1) (w_alone (KINDS C_BadNumber C_BadText C_BadPoly C_BadTower C_BadRow C_BadTable C_BadPaper C_Unlike C_TooMany C_BadName C_NoName C_TakenName C_NothingToUndo C_NothingToRedo)) := by
  obtain ⟨f__law_kinds_of, d__law_kinds_of, G__law_kinds_of, n__law_kinds_of, q__law_kinds_of, b__law_kinds_of⟩ := h__law_kinds_of.ex
  refine def_ok (k := 1) F sc__law_alone (fun f cdv A outer s H E hg hr => (DSs.one (DS.ret (DE.and (DE.isiE (c := .ref C_DrawError) (fun _ => rfl) (fun _ => pe_glob (v := .ref C_DrawError) (by rfl) mC_DrawError rfl) relv_ref (fun _ => by rfl) (fun _ => m_isinstance) (DE.var fun _ => pv 1)) (DE.and (DE.cmp (fun _ => op_eqA hr.units) sem_eqA (DE.call (fun _ => G__law_kinds_of) (fun _ => hg) (fun _ => hr.mono (by omega)) (fun _ => takes_of rfl rfl rfl rfl) (fun _ => by rfl) (fun _ => n__law_kinds_of) (fun _ => q__law_kinds_of) (fun _ => b__law_kinds_of) (DA.cons (DE.var fun _ => pv 1) DA.nil)) (DE.lst (DA.cons (DE.var fun _ => pv 0) DA.nil))) (DE.one (DE.cmp (fun _ => op_eqA hr.units) sem_eqA (DE.opL (fun _ _ ha => pe_callB (call_reprX hg hr.units) (by rfl) m_repr (by decide +kernel) ha) sem_reprX (DA.cons (DE.var fun _ => pv 3) DA.nil)) (DE.opL (fun _ _ ha => pe_callB (call_reprX hg hr.units) (by rfl) m_repr (by decide +kernel) ha) sem_reprX (DA.cons (DE.var fun _ => pv 2) DA.nil))))))))) fun ds Kd Kx n hl h => ?_
  obtain ⟨nm, C, ns, fs, d, rfl, hm, hd, hk⟩ := h
  obtain ⟨ek, ed, eq⟩ := kindsB_ok isk hm
  rw [s_body, s_onE]
  show Wm.bind _ _ _ _ _
  simp only [Wm.bind]
  simp only [w_bind, w_pure, w_calm, g_0, g_s, List.map_cons, List.map_nil, List.cons_append]
  refine ⟨ek, true, ed, ?_⟩
  simp only [w_bind, w_pure, w_calm, g_0, g_s, w_need]
  refine ⟨rfl, nm, C, ns, fs, rfl, hm, fits_small (by simp), ?_⟩
  have sok : PyData.strOk nm = true := by
    simp only [List.mem_cons, List.not_mem_nil, or_false, Prod.mk.injEq] at hm
    rcases hm with ⟨rfl, _⟩ | ⟨rfl, _⟩ | ⟨rfl, _⟩ | ⟨rfl, _⟩ | ⟨rfl, _⟩ | ⟨rfl, _⟩ | ⟨rfl, _⟩ | ⟨rfl, _⟩ | ⟨rfl, _⟩ | ⟨rfl, _⟩ | ⟨rfl, _⟩ | ⟨rfl, _⟩ | ⟨rfl, _⟩ | ⟨rfl, _⟩ <;> decide +kernel
  refine fEq_data (eqOk_one sok) (eqOk_one sok) ?_
  rw [eqD_one]
  simp only [w_bind, w_pure, w_calm, fReprX_at, fEq_str]
  refine ⟨hd, hd, ?_⟩
  simpa using hk


theorem ok__law_first_right  (F : DefF K mg "_law_first_right" s__law_first_right ["a", "b", "c"]) (m_all : mg "all" = none) (h__law_alone : DefG P w K mg base "_law_alone" ["name", "fault", "due", "found"] (2) (w_alone (KINDS C_BadNumber C_BadText C_BadPoly C_BadTower C_BadRow C_BadTable C_BadPaper C_Unlike C_TooMany C_BadName C_NoName C_TakenName C_NothingToUndo C_NothingToRedo))) (v_BadPaper : ErrV P w K mg base "BadPaper" C_BadPaper fs_BadPaper 1) (v_BadTable : ErrV P w K mg base "BadTable" C_BadTable fs_BadTable 1) (v_BadRow : ErrV P w K mg base "BadRow" C_BadRow fs_BadRow 1) (v_BadTower : ErrV P w K mg base "BadTower" C_BadTower fs_BadTower 1) (v_BadPoly : ErrV P w K mg base "BadPoly" C_BadPoly fs_BadPoly 1) (v_BadText : ErrV P w K mg base "BadText" C_BadText fs_BadText 1) (v_BadNumber : ErrV P w K mg base "BadNumber" C_BadNumber fs_BadNumber 1) (att : attB K [(C_BadNumber, fs_BadNumber), (C_BadText, fs_BadText), (C_BadPoly, fs_BadPoly), (C_BadTower, fs_BadTower), (C_BadRow, fs_BadRow), (C_BadTable, fs_BadTable), (C_BadPaper, fs_BadPaper), (C_Unlike, fs_Unlike), (C_TooMany, fs_TooMany), (C_BadName, fs_BadName), (C_NoName, fs_NoName), (C_TakenName, fs_TakenName)] = true) : DefG P w K mg base "_law_first_right" ["a", "b", "c"] (2 + 1) w_right := by
  obtain ⟨f__law_alone, d__law_alone, G__law_alone, n__law_alone, q__law_alone, b__law_alone⟩ := h__law_alone.ex
  obtain ⟨fi_BadPaper, fd_BadPaper, ps_BadPaper, T_BadPaper, i_BadPaper, t_BadPaper, F_BadPaper, B_BadPaper, W_BadPaper, l_BadPaper, g_BadPaper⟩ := v_BadPaper.ex
  obtain ⟨fi_BadTable, fd_BadTable, ps_BadTable, T_BadTable, i_BadTable, t_BadTable, F_BadTable, B_BadTable, W_BadTable, l_BadTable, g_BadTable⟩ := v_BadTable.ex
  obtain ⟨fi_BadRow, fd_BadRow, ps_BadRow, T_BadRow, i_BadRow, t_BadRow, F_BadRow, B_BadRow, W_BadRow, l_BadRow, g_BadRow⟩ := v_BadRow.ex
  obtain ⟨fi_BadTower, fd_BadTower, ps_BadTower, T_BadTower, i_BadTower, t_BadTower, F_BadTower, B_BadTower, W_BadTower, l_BadTower, g_BadTower⟩ := v_BadTower.ex
  obtain ⟨fi_BadPoly, fd_BadPoly, ps_BadPoly, T_BadPoly, i_BadPoly, t_BadPoly, F_BadPoly, B_BadPoly, W_BadPoly, l_BadPoly, g_BadPoly⟩ := v_BadPoly.ex
  obtain ⟨fi_BadText, fd_BadText, ps_BadText, T_BadText, i_BadText, t_BadText, F_BadText, B_BadText, W_BadText, l_BadText, g_BadText⟩ := v_BadText.ex
  obtain ⟨fi_BadNumber, fd_BadNumber, ps_BadNumber, T_BadNumber, i_BadNumber, t_BadNumber, F_BadNumber, B_BadNumber, W_BadNumber, l_BadNumber, g_BadNumber⟩ := v_BadNumber.ex
  refine def_ok (k := 2) F sc__law_first_right (fun f cdv A outer s H E hg hr => (DSs.cons (DS.own (k := 3) (fun _ => sc__law_first_right.nd) (fun _ => rfl) (fun _ => (.inl rfl)) DA.nil)
    (DSs.cons (DS.set (k := 4) (fun _ => sc__law_first_right.nd) (fun _ => rfl) (fun _ => (.inl rfl)) (DE.newO (fun _ => T_BadNumber) (by simp) (fun _ => i_BadNumber) (fun _ => t_BadNumber) (fun _ => F_BadNumber) (fun _ => hr.mono (by omega)) (fun _ => B_BadNumber) (fun _ => by rfl) (fun _ => g_BadNumber) (DA.cons (DE.var fun _ => pv 0) (DA.cons (DE.var fun _ => pv 1) DA.nil))))
    (DSs.cons (DS.set (k := 5) (fun _ => sc__law_first_right.nd) (fun _ => rfl) (fun _ => (.inl rfl)) (DE.newK (fun _ => T_BadNumber) (by simp) (fun _ => i_BadNumber) (fun _ => t_BadNumber) (fun _ => F_BadNumber) (fun _ => hr.mono (by omega)) (fun _ => W_BadNumber) l_BadNumber (fun _ => by rfl) (fun _ => g_BadNumber) (DK.cons (DE.var fun _ => pv 1) (DK.cons (DE.var fun _ => pv 0) DK.nil))))
    (DSs.cons (DS.append (k := 3) (fun _ => rfl) (fun _ => pv 3) (DE.tup (DA.cons DE.str (DA.cons (DE.var fun _ => pv 4) (DA.cons (DE.lst (DA.cons (DE.var fun _ => pv 0) (DA.cons (DE.var fun _ => pv 1) DA.nil))) (DA.cons (DE.lst (DA.cons (DE.att (fun _ => rfl) (DE.var fun _ => pv 4)) (DA.cons (DE.att (fun _ => rfl) (DE.var fun _ => pv 4)) DA.nil))) DA.nil))))) (fun _ _ ha => pe_bm PySem.F.plainAttrs_list PySem.F.slot_list_append PySem.F.type_list_append mt_append (pv 3) ha))
    (DSs.cons (DS.append (k := 3) (fun _ => rfl) (fun _ => pv 3) (DE.tup (DA.cons DE.str (DA.cons (DE.var fun _ => pv 5) (DA.cons (DE.lst (DA.cons (DE.var fun _ => pv 0) (DA.cons (DE.var fun _ => pv 1) DA.nil))) (DA.cons (DE.lst (DA.cons (DE.att (fun _ => rfl) (DE.var fun _ => pv 5)) (DA.cons (DE.att (fun _ => rfl) (DE.var fun _ => pv 5)) DA.nil))) DA.nil))))) (fun _ _ ha => pe_bm PySem.F.plainAttrs_list PySem.F.slot_list_append PySem.F.type_list_append mt_append (pv 3) ha))
    (DSs.cons (DS.set (k := 4) (fun _ => sc__law_first_right.nd) (fun _ => rfl) (fun _ => (.inl rfl)) (DE.newO (fun _ => T_BadText) (by simp) (fun _ => i_BadText) (fun _ => t_BadText) (fun _ => F_BadText) (fun _ => hr.mono (by omega)) (fun _ => B_BadText) (fun _ => by rfl) (fun _ => g_BadText) (DA.cons (DE.var fun _ => pv 0) (DA.cons (DE.var fun _ => pv 1) DA.nil))))
    (DSs.cons (DS.set (k := 5) (fun _ => sc__law_first_right.nd) (fun _ => rfl) (fun _ => (.inl rfl)) (DE.newK (fun _ => T_BadText) (by simp) (fun _ => i_BadText) (fun _ => t_BadText) (fun _ => F_BadText) (fun _ => hr.mono (by omega)) (fun _ => W_BadText) l_BadText (fun _ => by rfl) (fun _ => g_BadText) (DK.cons (DE.var fun _ => pv 1) (DK.cons (DE.var fun _ => pv 0) DK.nil))))
    (DSs.cons (DS.append (k := 3) (fun _ => rfl) (fun _ => pv 3) (DE.tup (DA.cons DE.str (DA.cons (DE.var fun _ => pv 4) (DA.cons (DE.lst (DA.cons (DE.var fun _ => pv 0) (DA.cons (DE.var fun _ => pv 1) DA.nil))) (DA.cons (DE.lst (DA.cons (DE.att (fun _ => rfl) (DE.var fun _ => pv 4)) (DA.cons (DE.att (fun _ => rfl) (DE.var fun _ => pv 4)) DA.nil))) DA.nil))))) (fun _ _ ha => pe_bm PySem.F.plainAttrs_list PySem.F.slot_list_append PySem.F.type_list_append mt_append (pv 3) ha))
    (DSs.cons (DS.append (k := 3) (fun _ => rfl) (fun _ => pv 3) (DE.tup (DA.cons DE.str (DA.cons (DE.var fun _ => pv 5) (DA.cons (DE.lst (DA.cons (DE.var fun _ => pv 0) (DA.cons (DE.var fun _ => pv 1) DA.nil))) (DA.cons (DE.lst (DA.cons (DE.att (fun _ => rfl) (DE.var fun _ => pv 5)) (DA.cons (DE.att (fun _ => rfl) (DE.var fun _ => pv 5)) DA.nil))) DA.nil))))) (fun _ _ ha => pe_bm PySem.F.plainAttrs_list PySem.F.slot_list_append PySem.F.type_list_append mt_append (pv 3) ha))
    (DSs.cons (DS.set (k := 4) (fun _ => sc__law_first_right.nd) (fun _ => rfl) (fun _ => (.inl rfl)) (DE.newO (fun _ => T_BadPoly) (by simp) (fun _ => i_BadPoly) (fun _ => t_BadPoly) (fun _ => F_BadPoly) (fun _ => hr.mono (by omega)) (fun _ => B_BadPoly) (fun _ => by rfl) (fun _ => g_BadPoly) (DA.cons (DE.var fun _ => pv 0) DA.nil)))
    (DSs.cons (DS.set (k := 5) (fun _ => sc__law_first_right.nd) (fun _ => rfl) (fun _ => (.inl rfl)) (DE.newK (fun _ => T_BadPoly) (by simp) (fun _ => i_BadPoly) (fun _ => t_BadPoly) (fun _ => F_BadPoly) (fun _ => hr.mono (by omega)) (fun _ => W_BadPoly) l_BadPoly (fun _ => by rfl) (fun _ => g_BadPoly) (DK.cons (DE.var fun _ => pv 0) DK.nil)))
    (DSs.cons (DS.append (k := 3) (fun _ => rfl) (fun _ => pv 3) (DE.tup (DA.cons DE.str (DA.cons (DE.var fun _ => pv 4) (DA.cons (DE.lst (DA.cons (DE.var fun _ => pv 0) DA.nil)) (DA.cons (DE.lst (DA.cons (DE.att (fun _ => rfl) (DE.var fun _ => pv 4)) DA.nil)) DA.nil))))) (fun _ _ ha => pe_bm PySem.F.plainAttrs_list PySem.F.slot_list_append PySem.F.type_list_append mt_append (pv 3) ha))
    (DSs.cons (DS.append (k := 3) (fun _ => rfl) (fun _ => pv 3) (DE.tup (DA.cons DE.str (DA.cons (DE.var fun _ => pv 5) (DA.cons (DE.lst (DA.cons (DE.var fun _ => pv 0) DA.nil)) (DA.cons (DE.lst (DA.cons (DE.att (fun _ => rfl) (DE.var fun _ => pv 5)) DA.nil)) DA.nil))))) (fun _ _ ha => pe_bm PySem.F.plainAttrs_list PySem.F.slot_list_append PySem.F.type_list_append mt_append (pv 3) ha))
    (DSs.cons (DS.set (k := 4) (fun _ => sc__law_first_right.nd) (fun _ => rfl) (fun _ => (.inl rfl)) (DE.newO (fun _ => T_BadTower) (by simp) (fun _ => i_BadTower) (fun _ => t_BadTower) (fun _ => F_BadTower) (fun _ => hr.mono (by omega)) (fun _ => B_BadTower) (fun _ => by rfl) (fun _ => g_BadTower) (DA.cons (DE.var fun _ => pv 0) (DA.cons (DE.var fun _ => pv 1) DA.nil))))
    (DSs.cons (DS.set (k := 5) (fun _ => sc__law_first_right.nd) (fun _ => rfl) (fun _ => (.inl rfl)) (DE.newK (fun _ => T_BadTower) (by simp) (fun _ => i_BadTower) (fun _ => t_BadTower) (fun _ => F_BadTower) (fun _ => hr.mono (by omega)) (fun _ => W_BadTower) l_BadTower (fun _ => by rfl) (fun _ => g_BadTower) (DK.cons (DE.var fun _ => pv 1) (DK.cons (DE.var fun _ => pv 0) DK.nil))))
    (DSs.cons (DS.append (k := 3) (fun _ => rfl) (fun _ => pv 3) (DE.tup (DA.cons DE.str (DA.cons (DE.var fun _ => pv 4) (DA.cons (DE.lst (DA.cons (DE.var fun _ => pv 0) (DA.cons (DE.var fun _ => pv 1) DA.nil))) (DA.cons (DE.lst (DA.cons (DE.att (fun _ => rfl) (DE.var fun _ => pv 4)) (DA.cons (DE.att (fun _ => rfl) (DE.var fun _ => pv 4)) DA.nil))) DA.nil))))) (fun _ _ ha => pe_bm PySem.F.plainAttrs_list PySem.F.slot_list_append PySem.F.type_list_append mt_append (pv 3) ha))
    (DSs.cons (DS.append (k := 3) (fun _ => rfl) (fun _ => pv 3) (DE.tup (DA.cons DE.str (DA.cons (DE.var fun _ => pv 5) (DA.cons (DE.lst (DA.cons (DE.var fun _ => pv 0) (DA.cons (DE.var fun _ => pv 1) DA.nil))) (DA.cons (DE.lst (DA.cons (DE.att (fun _ => rfl) (DE.var fun _ => pv 5)) (DA.cons (DE.att (fun _ => rfl) (DE.var fun _ => pv 5)) DA.nil))) DA.nil))))) (fun _ _ ha => pe_bm PySem.F.plainAttrs_list PySem.F.slot_list_append PySem.F.type_list_append mt_append (pv 3) ha))
    (DSs.cons (DS.set (k := 4) (fun _ => sc__law_first_right.nd) (fun _ => rfl) (fun _ => (.inl rfl)) (DE.newO (fun _ => T_BadRow) (by simp) (fun _ => i_BadRow) (fun _ => t_BadRow) (fun _ => F_BadRow) (fun _ => hr.mono (by omega)) (fun _ => B_BadRow) (fun _ => by rfl) (fun _ => g_BadRow) (DA.cons (DE.var fun _ => pv 0) DA.nil)))
    (DSs.cons (DS.set (k := 5) (fun _ => sc__law_first_right.nd) (fun _ => rfl) (fun _ => (.inl rfl)) (DE.newK (fun _ => T_BadRow) (by simp) (fun _ => i_BadRow) (fun _ => t_BadRow) (fun _ => F_BadRow) (fun _ => hr.mono (by omega)) (fun _ => W_BadRow) l_BadRow (fun _ => by rfl) (fun _ => g_BadRow) (DK.cons (DE.var fun _ => pv 0) DK.nil)))
    (DSs.cons (DS.append (k := 3) (fun _ => rfl) (fun _ => pv 3) (DE.tup (DA.cons DE.str (DA.cons (DE.var fun _ => pv 4) (DA.cons (DE.lst (DA.cons (DE.var fun _ => pv 0) DA.nil)) (DA.cons (DE.lst (DA.cons (DE.att (fun _ => rfl) (DE.var fun _ => pv 4)) DA.nil)) DA.nil))))) (fun _ _ ha => pe_bm PySem.F.plainAttrs_list PySem.F.slot_list_append PySem.F.type_list_append mt_append (pv 3) ha))
    (DSs.cons (DS.append (k := 3) (fun _ => rfl) (fun _ => pv 3) (DE.tup (DA.cons DE.str (DA.cons (DE.var fun _ => pv 5) (DA.cons (DE.lst (DA.cons (DE.var fun _ => pv 0) DA.nil)) (DA.cons (DE.lst (DA.cons (DE.att (fun _ => rfl) (DE.var fun _ => pv 5)) DA.nil)) DA.nil))))) (fun _ _ ha => pe_bm PySem.F.plainAttrs_list PySem.F.slot_list_append PySem.F.type_list_append mt_append (pv 3) ha))
    (DSs.cons (DS.set (k := 4) (fun _ => sc__law_first_right.nd) (fun _ => rfl) (fun _ => (.inl rfl)) (DE.newO (fun _ => T_BadTable) (by simp) (fun _ => i_BadTable) (fun _ => t_BadTable) (fun _ => F_BadTable) (fun _ => hr.mono (by omega)) (fun _ => B_BadTable) (fun _ => by rfl) (fun _ => g_BadTable) (DA.cons (DE.var fun _ => pv 0) DA.nil)))
    (DSs.cons (DS.set (k := 5) (fun _ => sc__law_first_right.nd) (fun _ => rfl) (fun _ => (.inl rfl)) (DE.newK (fun _ => T_BadTable) (by simp) (fun _ => i_BadTable) (fun _ => t_BadTable) (fun _ => F_BadTable) (fun _ => hr.mono (by omega)) (fun _ => W_BadTable) l_BadTable (fun _ => by rfl) (fun _ => g_BadTable) (DK.cons (DE.var fun _ => pv 0) DK.nil)))
    (DSs.cons (DS.append (k := 3) (fun _ => rfl) (fun _ => pv 3) (DE.tup (DA.cons DE.str (DA.cons (DE.var fun _ => pv 4) (DA.cons (DE.lst (DA.cons (DE.var fun _ => pv 0) DA.nil)) (DA.cons (DE.lst (DA.cons (DE.att (fun _ => rfl) (DE.var fun _ => pv 4)) DA.nil)) DA.nil))))) (fun _ _ ha => pe_bm PySem.F.plainAttrs_list PySem.F.slot_list_append PySem.F.type_list_append mt_append (pv 3) ha))
    (DSs.cons (DS.append (k := 3) (fun _ => rfl) (fun _ => pv 3) (DE.tup (DA.cons DE.str (DA.cons (DE.var fun _ => pv 5) (DA.cons (DE.lst (DA.cons (DE.var fun _ => pv 0) DA.nil)) (DA.cons (DE.lst (DA.cons (DE.att (fun _ => rfl) (DE.var fun _ => pv 5)) DA.nil)) DA.nil))))) (fun _ _ ha => pe_bm PySem.F.plainAttrs_list PySem.F.slot_list_append PySem.F.type_list_append mt_append (pv 3) ha))
    (DSs.cons (DS.set (k := 4) (fun _ => sc__law_first_right.nd) (fun _ => rfl) (fun _ => (.inl rfl)) (DE.newO (fun _ => T_BadPaper) (by simp) (fun _ => i_BadPaper) (fun _ => t_BadPaper) (fun _ => F_BadPaper) (fun _ => hr.mono (by omega)) (fun _ => B_BadPaper) (fun _ => by rfl) (fun _ => g_BadPaper) (DA.cons (DE.var fun _ => pv 0) DA.nil)))
    (DSs.cons (DS.set (k := 5) (fun _ => sc__law_first_right.nd) (fun _ => rfl) (fun _ => (.inl rfl)) (DE.newK (fun _ => T_BadPaper) (by simp) (fun _ => i_BadPaper) (fun _ => t_BadPaper) (fun _ => F_BadPaper) (fun _ => hr.mono (by omega)) (fun _ => W_BadPaper) l_BadPaper (fun _ => by rfl) (fun _ => g_BadPaper) (DK.cons (DE.var fun _ => pv 0) DK.nil)))
    (DSs.cons (DS.append (k := 3) (fun _ => rfl) (fun _ => pv 3) (DE.tup (DA.cons DE.str (DA.cons (DE.var fun _ => pv 4) (DA.cons (DE.lst (DA.cons (DE.var fun _ => pv 0) DA.nil)) (DA.cons (DE.lst (DA.cons (DE.att (fun _ => rfl) (DE.var fun _ => pv 4)) DA.nil)) DA.nil))))) (fun _ _ ha => pe_bm PySem.F.plainAttrs_list PySem.F.slot_list_append PySem.F.type_list_append mt_append (pv 3) ha))
    (DSs.cons (DS.append (k := 3) (fun _ => rfl) (fun _ => pv 3) (DE.tup (DA.cons DE.str (DA.cons (DE.var fun _ => pv 5) (DA.cons (DE.lst (DA.cons (DE.var fun _ => pv 0) DA.nil)) (DA.cons (DE.lst (DA.cons (DE.att (fun _ => rfl) (DE.var fun _ => pv 5)) DA.nil)) DA.nil))))) (fun _ _ ha => pe_bm PySem.F.plainAttrs_list PySem.F.slot_list_append PySem.F.type_list_append mt_append (pv 3) ha))
    (DSs.freeze 3 (DSs.one (DS.ret (DE.opL (fun _ _ ha => pe_callB (cr_all rfl) (by rfl) m_all (by decide +kernel) ha) sem_all (DA.cons (DE.lc (own := [("name", 6), ("fault", 7), ("due", 8), ("found", 9)]) (fun _ => rfl) (fun _ => sc__law_first_right.nd) (DI.seq (fun _ => rfl) (DE.var fun _ => pv 3)) (fun _ => blkOk_by (N := ["a", "b", "c", "rows", "one", "two", "name", "fault", "due", "found"]) (sc := defScope s__law_first_right) (by decide +kernel)) (DG.tup (m := 4) (fun _ => rfl) (fun _ => rfl) (DGs.cons (DG.name (k := 6) (fun _ => pg_name sc__law_first_right.nd rfl (.inl rfl))) (DGs.cons (DG.name (k := 7) (fun _ => pg_name sc__law_first_right.nd rfl (.inl rfl))) (DGs.cons (DG.name (k := 8) (fun _ => pg_name sc__law_first_right.nd rfl (.inl rfl))) (DGs.cons (DG.name (k := 9) (fun _ => pg_name sc__law_first_right.nd rfl (.inl rfl))) DGs.nil))))) DTs.nil (DE.call (fun _ => G__law_alone) (fun _ => hg) (fun _ => hr.mono (by omega)) (fun _ => L2.takes0) (fun _ => by rfl) (fun _ => n__law_alone) (fun _ => q__law_alone) (fun _ => b__law_alone) (DA.cons (DE.var fun _ => pv 6) (DA.cons (DE.var fun _ => pv 7) (DA.cons (DE.var fun _ => pv 8) (DA.cons (DE.var fun _ => pv 9) DA.nil)))))) DA.nil))))))))))))))))))))))))))))))))))) fun ds Kd Kx n hl h => ?_
  obtain ⟨a, b, c, rfl, ha, hb, hc, hk⟩ := h
  rw [s_body, s_seq]
  refine own_intro ?_
  refine ⟨fits_small (by simp), ?_⟩
  simp only [List.set_cons_succ, List.set_cons_zero, List.map_cons, List.map_nil, List.length_cons, List.length_nil, List.cons_append, List.nil_append, List.replicate]
  obtain ⟨m0, hm0⟩ : ∃ m0, m0 = n := ⟨_, rfl⟩
  rw [← hm0] at hk ⊢
  refine seq_split (fun ρ' n' => ρ' = [some (.d a), some (.d b), some (.d c), some (.ml []), some (.d (D.exc C_BadNumber fs_BadNumber.reverse [b, a])), none, none, none, none, none] ∧ n' = m0) ?R1 (fun nx hnx => ?S1)
  case S1 =>
    rw [s_asg]
    simp only [s_onE, w_bind, w_pure, w_need, w_calm, g_0, g_s]
    exact ⟨rfl, hnx _ _ ⟨rfl, rfl⟩⟩
  intro ρ1 n1 h1
  obtain ⟨e1, e2⟩ := h1
  rw [e1, e2]
  clear e1 e2 ρ1 n1
  refine seq_split (fun ρ' n' => ρ' = [some (.d a), some (.d b), some (.d c), some (.ml []), some (.d (D.exc C_BadNumber fs_BadNumber.reverse [b, a])), some (.d (D.exc C_BadNumber fs_BadNumber.reverse [b, a])), none, none, none, none] ∧ n' = m0) ?R2 (fun nx hnx => ?S2)
  case S2 =>
    rw [s_asg]
    simp only [s_onE, w_bind, w_pure, w_need, w_calm, g_0, g_s]
    exact ⟨rfl, hnx _ _ ⟨rfl, rfl⟩⟩
  intro ρ1 n1 h1
  obtain ⟨e1, e2⟩ := h1
  rw [e1, e2]
  clear e1 e2 ρ1 n1
  refine seq_split (fun ρ' n' => ρ' = [some (.d a), some (.d b), some (.d c), some (.ml [D.tup [.str "BadNumber", (D.exc C_BadNumber fs_BadNumber.reverse [b, a]), .lst [a, b], .lst [a, b]]]), some (.d (D.exc C_BadNumber fs_BadNumber.reverse [b, a])), some (.d (D.exc C_BadNumber fs_BadNumber.reverse [b, a])), none, none, none, none] ∧ n' = m0) ?R3 (fun nx hnx => ?S3)
  case S3 =>
    refine app_intro (ds := []) rfl ?_
    simp only [s_onE, w_bind, w_pure, w_need, w_calm, g_0, g_s]
    exact ⟨fits_small (by simp), _, (attB_ok att (C := C_BadNumber) (fs := fs_BadNumber) (by simp) (f := "what") (by simp)).1, (attB_ok att (C := C_BadNumber) (fs := fs_BadNumber) (by simp) (f := "what") (by simp)).2, rfl, _, (attB_ok att (C := C_BadNumber) (fs := fs_BadNumber) (by simp) (f := "number") (by simp)).1, (attB_ok att (C := C_BadNumber) (fs := fs_BadNumber) (by simp) (f := "number") (by simp)).2, rfl, fits_small (by simp), fits_small (by simp), by rw [sizeLine_eq]; simp, hnx _ _ ⟨rfl, rfl⟩⟩
  intro ρ1 n1 h1
  obtain ⟨e1, e2⟩ := h1
  rw [e1, e2]
  clear e1 e2 ρ1 n1
  refine seq_split (fun ρ' n' => ρ' = [some (.d a), some (.d b), some (.d c), some (.ml [D.tup [.str "BadNumber", (D.exc C_BadNumber fs_BadNumber.reverse [b, a]), .lst [a, b], .lst [a, b]], D.tup [.str "BadNumber", (D.exc C_BadNumber fs_BadNumber.reverse [b, a]), .lst [a, b], .lst [a, b]]]), some (.d (D.exc C_BadNumber fs_BadNumber.reverse [b, a])), some (.d (D.exc C_BadNumber fs_BadNumber.reverse [b, a])), none, none, none, none] ∧ n' = m0) ?R4 (fun nx hnx => ?S4)
  case S4 =>
    refine app_intro (ds := [D.tup [.str "BadNumber", (D.exc C_BadNumber fs_BadNumber.reverse [b, a]), .lst [a, b], .lst [a, b]]]) rfl ?_
    simp only [s_onE, w_bind, w_pure, w_need, w_calm, g_0, g_s]
    exact ⟨fits_small (by simp), _, (attB_ok att (C := C_BadNumber) (fs := fs_BadNumber) (by simp) (f := "what") (by simp)).1, (attB_ok att (C := C_BadNumber) (fs := fs_BadNumber) (by simp) (f := "what") (by simp)).2, rfl, _, (attB_ok att (C := C_BadNumber) (fs := fs_BadNumber) (by simp) (f := "number") (by simp)).1, (attB_ok att (C := C_BadNumber) (fs := fs_BadNumber) (by simp) (f := "number") (by simp)).2, rfl, fits_small (by simp), fits_small (by simp), by rw [sizeLine_eq]; simp, hnx _ _ ⟨rfl, rfl⟩⟩
  intro ρ1 n1 h1
  obtain ⟨e1, e2⟩ := h1
  rw [e1, e2]
  clear e1 e2 ρ1 n1
  refine seq_split (fun ρ' n' => ρ' = [some (.d a), some (.d b), some (.d c), some (.ml [D.tup [.str "BadNumber", (D.exc C_BadNumber fs_BadNumber.reverse [b, a]), .lst [a, b], .lst [a, b]], D.tup [.str "BadNumber", (D.exc C_BadNumber fs_BadNumber.reverse [b, a]), .lst [a, b], .lst [a, b]]]), some (.d (D.exc C_BadText fs_BadText.reverse [b, a])), some (.d (D.exc C_BadNumber fs_BadNumber.reverse [b, a])), none, none, none, none] ∧ n' = m0) ?R5 (fun nx hnx => ?S5)
  case S5 =>
    rw [s_asg]
    simp only [s_onE, w_bind, w_pure, w_need, w_calm, g_0, g_s]
    exact ⟨rfl, hnx _ _ ⟨rfl, rfl⟩⟩
  intro ρ1 n1 h1
  obtain ⟨e1, e2⟩ := h1
  rw [e1, e2]
  clear e1 e2 ρ1 n1
  refine seq_split (fun ρ' n' => ρ' = [some (.d a), some (.d b), some (.d c), some (.ml [D.tup [.str "BadNumber", (D.exc C_BadNumber fs_BadNumber.reverse [b, a]), .lst [a, b], .lst [a, b]], D.tup [.str "BadNumber", (D.exc C_BadNumber fs_BadNumber.reverse [b, a]), .lst [a, b], .lst [a, b]]]), some (.d (D.exc C_BadText fs_BadText.reverse [b, a])), some (.d (D.exc C_BadText fs_BadText.reverse [b, a])), none, none, none, none] ∧ n' = m0) ?R6 (fun nx hnx => ?S6)
  case S6 =>
    rw [s_asg]
    simp only [s_onE, w_bind, w_pure, w_need, w_calm, g_0, g_s]
    exact ⟨rfl, hnx _ _ ⟨rfl, rfl⟩⟩
  intro ρ1 n1 h1
  obtain ⟨e1, e2⟩ := h1
  rw [e1, e2]
  clear e1 e2 ρ1 n1
  refine seq_split (fun ρ' n' => ρ' = [some (.d a), some (.d b), some (.d c), some (.ml [D.tup [.str "BadNumber", (D.exc C_BadNumber fs_BadNumber.reverse [b, a]), .lst [a, b], .lst [a, b]], D.tup [.str "BadNumber", (D.exc C_BadNumber fs_BadNumber.reverse [b, a]), .lst [a, b], .lst [a, b]], D.tup [.str "BadText", (D.exc C_BadText fs_BadText.reverse [b, a]), .lst [a, b], .lst [a, b]]]), some (.d (D.exc C_BadText fs_BadText.reverse [b, a])), some (.d (D.exc C_BadText fs_BadText.reverse [b, a])), none, none, none, none] ∧ n' = m0) ?R7 (fun nx hnx => ?S7)
  case S7 =>
    refine app_intro (ds := [D.tup [.str "BadNumber", (D.exc C_BadNumber fs_BadNumber.reverse [b, a]), .lst [a, b], .lst [a, b]], D.tup [.str "BadNumber", (D.exc C_BadNumber fs_BadNumber.reverse [b, a]), .lst [a, b], .lst [a, b]]]) rfl ?_
    simp only [s_onE, w_bind, w_pure, w_need, w_calm, g_0, g_s]
    exact ⟨fits_small (by simp), _, (attB_ok att (C := C_BadText) (fs := fs_BadText) (by simp) (f := "line") (by simp)).1, (attB_ok att (C := C_BadText) (fs := fs_BadText) (by simp) (f := "line") (by simp)).2, rfl, _, (attB_ok att (C := C_BadText) (fs := fs_BadText) (by simp) (f := "column") (by simp)).1, (attB_ok att (C := C_BadText) (fs := fs_BadText) (by simp) (f := "column") (by simp)).2, rfl, fits_small (by simp), fits_small (by simp), by rw [sizeLine_eq]; simp, hnx _ _ ⟨rfl, rfl⟩⟩
  intro ρ1 n1 h1
  obtain ⟨e1, e2⟩ := h1
  rw [e1, e2]
  clear e1 e2 ρ1 n1
  refine seq_split (fun ρ' n' => ρ' = [some (.d a), some (.d b), some (.d c), some (.ml [D.tup [.str "BadNumber", (D.exc C_BadNumber fs_BadNumber.reverse [b, a]), .lst [a, b], .lst [a, b]], D.tup [.str "BadNumber", (D.exc C_BadNumber fs_BadNumber.reverse [b, a]), .lst [a, b], .lst [a, b]], D.tup [.str "BadText", (D.exc C_BadText fs_BadText.reverse [b, a]), .lst [a, b], .lst [a, b]], D.tup [.str "BadText", (D.exc C_BadText fs_BadText.reverse [b, a]), .lst [a, b], .lst [a, b]]]), some (.d (D.exc C_BadText fs_BadText.reverse [b, a])), some (.d (D.exc C_BadText fs_BadText.reverse [b, a])), none, none, none, none] ∧ n' = m0) ?R8 (fun nx hnx => ?S8)
  case S8 =>
    refine app_intro (ds := [D.tup [.str "BadNumber", (D.exc C_BadNumber fs_BadNumber.reverse [b, a]), .lst [a, b], .lst [a, b]], D.tup [.str "BadNumber", (D.exc C_BadNumber fs_BadNumber.reverse [b, a]), .lst [a, b], .lst [a, b]], D.tup [.str "BadText", (D.exc C_BadText fs_BadText.reverse [b, a]), .lst [a, b], .lst [a, b]]]) rfl ?_
    simp only [s_onE, w_bind, w_pure, w_need, w_calm, g_0, g_s]
    exact ⟨fits_small (by simp), _, (attB_ok att (C := C_BadText) (fs := fs_BadText) (by simp) (f := "line") (by simp)).1, (attB_ok att (C := C_BadText) (fs := fs_BadText) (by simp) (f := "line") (by simp)).2, rfl, _, (attB_ok att (C := C_BadText) (fs := fs_BadText) (by simp) (f := "column") (by simp)).1, (attB_ok att (C := C_BadText) (fs := fs_BadText) (by simp) (f := "column") (by simp)).2, rfl, fits_small (by simp), fits_small (by simp), by rw [sizeLine_eq]; simp, hnx _ _ ⟨rfl, rfl⟩⟩
  intro ρ1 n1 h1
  obtain ⟨e1, e2⟩ := h1
  rw [e1, e2]
  clear e1 e2 ρ1 n1
  refine seq_split (fun ρ' n' => ρ' = [some (.d a), some (.d b), some (.d c), some (.ml [D.tup [.str "BadNumber", (D.exc C_BadNumber fs_BadNumber.reverse [b, a]), .lst [a, b], .lst [a, b]], D.tup [.str "BadNumber", (D.exc C_BadNumber fs_BadNumber.reverse [b, a]), .lst [a, b], .lst [a, b]], D.tup [.str "BadText", (D.exc C_BadText fs_BadText.reverse [b, a]), .lst [a, b], .lst [a, b]], D.tup [.str "BadText", (D.exc C_BadText fs_BadText.reverse [b, a]), .lst [a, b], .lst [a, b]]]), some (.d (D.exc C_BadPoly fs_BadPoly.reverse [a])), some (.d (D.exc C_BadText fs_BadText.reverse [b, a])), none, none, none, none] ∧ n' = m0) ?R9 (fun nx hnx => ?S9)
  case S9 =>
    rw [s_asg]
    simp only [s_onE, w_bind, w_pure, w_need, w_calm, g_0, g_s]
    exact ⟨rfl, hnx _ _ ⟨rfl, rfl⟩⟩
  intro ρ1 n1 h1
  obtain ⟨e1, e2⟩ := h1
  rw [e1, e2]
  clear e1 e2 ρ1 n1
  refine seq_split (fun ρ' n' => ρ' = [some (.d a), some (.d b), some (.d c), some (.ml [D.tup [.str "BadNumber", (D.exc C_BadNumber fs_BadNumber.reverse [b, a]), .lst [a, b], .lst [a, b]], D.tup [.str "BadNumber", (D.exc C_BadNumber fs_BadNumber.reverse [b, a]), .lst [a, b], .lst [a, b]], D.tup [.str "BadText", (D.exc C_BadText fs_BadText.reverse [b, a]), .lst [a, b], .lst [a, b]], D.tup [.str "BadText", (D.exc C_BadText fs_BadText.reverse [b, a]), .lst [a, b], .lst [a, b]]]), some (.d (D.exc C_BadPoly fs_BadPoly.reverse [a])), some (.d (D.exc C_BadPoly fs_BadPoly.reverse [a])), none, none, none, none] ∧ n' = m0) ?R10 (fun nx hnx => ?S10)
  case S10 =>
    rw [s_asg]
    simp only [s_onE, w_bind, w_pure, w_need, w_calm, g_0, g_s]
    exact ⟨rfl, hnx _ _ ⟨rfl, rfl⟩⟩
  intro ρ1 n1 h1
  obtain ⟨e1, e2⟩ := h1
  rw [e1, e2]
  clear e1 e2 ρ1 n1
  refine seq_split (fun ρ' n' => ρ' = [some (.d a), some (.d b), some (.d c), some (.ml [D.tup [.str "BadNumber", (D.exc C_BadNumber fs_BadNumber.reverse [b, a]), .lst [a, b], .lst [a, b]], D.tup [.str "BadNumber", (D.exc C_BadNumber fs_BadNumber.reverse [b, a]), .lst [a, b], .lst [a, b]], D.tup [.str "BadText", (D.exc C_BadText fs_BadText.reverse [b, a]), .lst [a, b], .lst [a, b]], D.tup [.str "BadText", (D.exc C_BadText fs_BadText.reverse [b, a]), .lst [a, b], .lst [a, b]], D.tup [.str "BadPoly", (D.exc C_BadPoly fs_BadPoly.reverse [a]), .lst [a], .lst [a]]]), some (.d (D.exc C_BadPoly fs_BadPoly.reverse [a])), some (.d (D.exc C_BadPoly fs_BadPoly.reverse [a])), none, none, none, none] ∧ n' = m0) ?R11 (fun nx hnx => ?S11)
  case S11 =>
    refine app_intro (ds := [D.tup [.str "BadNumber", (D.exc C_BadNumber fs_BadNumber.reverse [b, a]), .lst [a, b], .lst [a, b]], D.tup [.str "BadNumber", (D.exc C_BadNumber fs_BadNumber.reverse [b, a]), .lst [a, b], .lst [a, b]], D.tup [.str "BadText", (D.exc C_BadText fs_BadText.reverse [b, a]), .lst [a, b], .lst [a, b]], D.tup [.str "BadText", (D.exc C_BadText fs_BadText.reverse [b, a]), .lst [a, b], .lst [a, b]]]) rfl ?_
    simp only [s_onE, w_bind, w_pure, w_need, w_calm, g_0, g_s]
    exact ⟨fits_small (by simp), _, (attB_ok att (C := C_BadPoly) (fs := fs_BadPoly) (by simp) (f := "value") (by simp)).1, (attB_ok att (C := C_BadPoly) (fs := fs_BadPoly) (by simp) (f := "value") (by simp)).2, rfl, fits_small (by simp), fits_small (by simp), by rw [sizeLine_eq]; simp, hnx _ _ ⟨rfl, rfl⟩⟩
  intro ρ1 n1 h1
  obtain ⟨e1, e2⟩ := h1
  rw [e1, e2]
  clear e1 e2 ρ1 n1
  refine seq_split (fun ρ' n' => ρ' = [some (.d a), some (.d b), some (.d c), some (.ml [D.tup [.str "BadNumber", (D.exc C_BadNumber fs_BadNumber.reverse [b, a]), .lst [a, b], .lst [a, b]], D.tup [.str "BadNumber", (D.exc C_BadNumber fs_BadNumber.reverse [b, a]), .lst [a, b], .lst [a, b]], D.tup [.str "BadText", (D.exc C_BadText fs_BadText.reverse [b, a]), .lst [a, b], .lst [a, b]], D.tup [.str "BadText", (D.exc C_BadText fs_BadText.reverse [b, a]), .lst [a, b], .lst [a, b]], D.tup [.str "BadPoly", (D.exc C_BadPoly fs_BadPoly.reverse [a]), .lst [a], .lst [a]], D.tup [.str "BadPoly", (D.exc C_BadPoly fs_BadPoly.reverse [a]), .lst [a], .lst [a]]]), some (.d (D.exc C_BadPoly fs_BadPoly.reverse [a])), some (.d (D.exc C_BadPoly fs_BadPoly.reverse [a])), none, none, none, none] ∧ n' = m0) ?R12 (fun nx hnx => ?S12)
  case S12 =>
    refine app_intro (ds := [D.tup [.str "BadNumber", (D.exc C_BadNumber fs_BadNumber.reverse [b, a]), .lst [a, b], .lst [a, b]], D.tup [.str "BadNumber", (D.exc C_BadNumber fs_BadNumber.reverse [b, a]), .lst [a, b], .lst [a, b]], D.tup [.str "BadText", (D.exc C_BadText fs_BadText.reverse [b, a]), .lst [a, b], .lst [a, b]], D.tup [.str "BadText", (D.exc C_BadText fs_BadText.reverse [b, a]), .lst [a, b], .lst [a, b]], D.tup [.str "BadPoly", (D.exc C_BadPoly fs_BadPoly.reverse [a]), .lst [a], .lst [a]]]) rfl ?_
    simp only [s_onE, w_bind, w_pure, w_need, w_calm, g_0, g_s]
    exact ⟨fits_small (by simp), _, (attB_ok att (C := C_BadPoly) (fs := fs_BadPoly) (by simp) (f := "value") (by simp)).1, (attB_ok att (C := C_BadPoly) (fs := fs_BadPoly) (by simp) (f := "value") (by simp)).2, rfl, fits_small (by simp), fits_small (by simp), by rw [sizeLine_eq]; simp, hnx _ _ ⟨rfl, rfl⟩⟩
  intro ρ1 n1 h1
  obtain ⟨e1, e2⟩ := h1
  rw [e1, e2]
  clear e1 e2 ρ1 n1
  refine seq_split (fun ρ' n' => ρ' = [some (.d a), some (.d b), some (.d c), some (.ml [D.tup [.str "BadNumber", (D.exc C_BadNumber fs_BadNumber.reverse [b, a]), .lst [a, b], .lst [a, b]], D.tup [.str "BadNumber", (D.exc C_BadNumber fs_BadNumber.reverse [b, a]), .lst [a, b], .lst [a, b]], D.tup [.str "BadText", (D.exc C_BadText fs_BadText.reverse [b, a]), .lst [a, b], .lst [a, b]], D.tup [.str "BadText", (D.exc C_BadText fs_BadText.reverse [b, a]), .lst [a, b], .lst [a, b]], D.tup [.str "BadPoly", (D.exc C_BadPoly fs_BadPoly.reverse [a]), .lst [a], .lst [a]], D.tup [.str "BadPoly", (D.exc C_BadPoly fs_BadPoly.reverse [a]), .lst [a], .lst [a]]]), some (.d (D.exc C_BadTower fs_BadTower.reverse [b, a])), some (.d (D.exc C_BadPoly fs_BadPoly.reverse [a])), none, none, none, none] ∧ n' = m0) ?R13 (fun nx hnx => ?S13)
  case S13 =>
    rw [s_asg]
    simp only [s_onE, w_bind, w_pure, w_need, w_calm, g_0, g_s]
    exact ⟨rfl, hnx _ _ ⟨rfl, rfl⟩⟩
  intro ρ1 n1 h1
  obtain ⟨e1, e2⟩ := h1
  rw [e1, e2]
  clear e1 e2 ρ1 n1
  refine seq_split (fun ρ' n' => ρ' = [some (.d a), some (.d b), some (.d c), some (.ml [D.tup [.str "BadNumber", (D.exc C_BadNumber fs_BadNumber.reverse [b, a]), .lst [a, b], .lst [a, b]], D.tup [.str "BadNumber", (D.exc C_BadNumber fs_BadNumber.reverse [b, a]), .lst [a, b], .lst [a, b]], D.tup [.str "BadText", (D.exc C_BadText fs_BadText.reverse [b, a]), .lst [a, b], .lst [a, b]], D.tup [.str "BadText", (D.exc C_BadText fs_BadText.reverse [b, a]), .lst [a, b], .lst [a, b]], D.tup [.str "BadPoly", (D.exc C_BadPoly fs_BadPoly.reverse [a]), .lst [a], .lst [a]], D.tup [.str "BadPoly", (D.exc C_BadPoly fs_BadPoly.reverse [a]), .lst [a], .lst [a]]]), some (.d (D.exc C_BadTower fs_BadTower.reverse [b, a])), some (.d (D.exc C_BadTower fs_BadTower.reverse [b, a])), none, none, none, none] ∧ n' = m0) ?R14 (fun nx hnx => ?S14)
  case S14 =>
    rw [s_asg]
    simp only [s_onE, w_bind, w_pure, w_need, w_calm, g_0, g_s]
    exact ⟨rfl, hnx _ _ ⟨rfl, rfl⟩⟩
  intro ρ1 n1 h1
  obtain ⟨e1, e2⟩ := h1
  rw [e1, e2]
  clear e1 e2 ρ1 n1
  refine seq_split (fun ρ' n' => ρ' = [some (.d a), some (.d b), some (.d c), some (.ml [D.tup [.str "BadNumber", (D.exc C_BadNumber fs_BadNumber.reverse [b, a]), .lst [a, b], .lst [a, b]], D.tup [.str "BadNumber", (D.exc C_BadNumber fs_BadNumber.reverse [b, a]), .lst [a, b], .lst [a, b]], D.tup [.str "BadText", (D.exc C_BadText fs_BadText.reverse [b, a]), .lst [a, b], .lst [a, b]], D.tup [.str "BadText", (D.exc C_BadText fs_BadText.reverse [b, a]), .lst [a, b], .lst [a, b]], D.tup [.str "BadPoly", (D.exc C_BadPoly fs_BadPoly.reverse [a]), .lst [a], .lst [a]], D.tup [.str "BadPoly", (D.exc C_BadPoly fs_BadPoly.reverse [a]), .lst [a], .lst [a]], D.tup [.str "BadTower", (D.exc C_BadTower fs_BadTower.reverse [b, a]), .lst [a, b], .lst [a, b]]]), some (.d (D.exc C_BadTower fs_BadTower.reverse [b, a])), some (.d (D.exc C_BadTower fs_BadTower.reverse [b, a])), none, none, none, none] ∧ n' = m0) ?R15 (fun nx hnx => ?S15)
  case S15 =>
    refine app_intro (ds := [D.tup [.str "BadNumber", (D.exc C_BadNumber fs_BadNumber.reverse [b, a]), .lst [a, b], .lst [a, b]], D.tup [.str "BadNumber", (D.exc C_BadNumber fs_BadNumber.reverse [b, a]), .lst [a, b], .lst [a, b]], D.tup [.str "BadText", (D.exc C_BadText fs_BadText.reverse [b, a]), .lst [a, b], .lst [a, b]], D.tup [.str "BadText", (D.exc C_BadText fs_BadText.reverse [b, a]), .lst [a, b], .lst [a, b]], D.tup [.str "BadPoly", (D.exc C_BadPoly fs_BadPoly.reverse [a]), .lst [a], .lst [a]], D.tup [.str "BadPoly", (D.exc C_BadPoly fs_BadPoly.reverse [a]), .lst [a], .lst [a]]]) rfl ?_
    simp only [s_onE, w_bind, w_pure, w_need, w_calm, g_0, g_s]
    exact ⟨fits_small (by simp), _, (attB_ok att (C := C_BadTower) (fs := fs_BadTower) (by simp) (f := "what") (by simp)).1, (attB_ok att (C := C_BadTower) (fs := fs_BadTower) (by simp) (f := "what") (by simp)).2, rfl, _, (attB_ok att (C := C_BadTower) (fs := fs_BadTower) (by simp) (f := "value") (by simp)).1, (attB_ok att (C := C_BadTower) (fs := fs_BadTower) (by simp) (f := "value") (by simp)).2, rfl, fits_small (by simp), fits_small (by simp), by rw [sizeLine_eq]; simp, hnx _ _ ⟨rfl, rfl⟩⟩
  intro ρ1 n1 h1
  obtain ⟨e1, e2⟩ := h1
  rw [e1, e2]
  clear e1 e2 ρ1 n1
  refine seq_split (fun ρ' n' => ρ' = [some (.d a), some (.d b), some (.d c), some (.ml [D.tup [.str "BadNumber", (D.exc C_BadNumber fs_BadNumber.reverse [b, a]), .lst [a, b], .lst [a, b]], D.tup [.str "BadNumber", (D.exc C_BadNumber fs_BadNumber.reverse [b, a]), .lst [a, b], .lst [a, b]], D.tup [.str "BadText", (D.exc C_BadText fs_BadText.reverse [b, a]), .lst [a, b], .lst [a, b]], D.tup [.str "BadText", (D.exc C_BadText fs_BadText.reverse [b, a]), .lst [a, b], .lst [a, b]], D.tup [.str "BadPoly", (D.exc C_BadPoly fs_BadPoly.reverse [a]), .lst [a], .lst [a]], D.tup [.str "BadPoly", (D.exc C_BadPoly fs_BadPoly.reverse [a]), .lst [a], .lst [a]], D.tup [.str "BadTower", (D.exc C_BadTower fs_BadTower.reverse [b, a]), .lst [a, b], .lst [a, b]], D.tup [.str "BadTower", (D.exc C_BadTower fs_BadTower.reverse [b, a]), .lst [a, b], .lst [a, b]]]), some (.d (D.exc C_BadTower fs_BadTower.reverse [b, a])), some (.d (D.exc C_BadTower fs_BadTower.reverse [b, a])), none, none, none, none] ∧ n' = m0) ?R16 (fun nx hnx => ?S16)
  case S16 =>
    refine app_intro (ds := [D.tup [.str "BadNumber", (D.exc C_BadNumber fs_BadNumber.reverse [b, a]), .lst [a, b], .lst [a, b]], D.tup [.str "BadNumber", (D.exc C_BadNumber fs_BadNumber.reverse [b, a]), .lst [a, b], .lst [a, b]], D.tup [.str "BadText", (D.exc C_BadText fs_BadText.reverse [b, a]), .lst [a, b], .lst [a, b]], D.tup [.str "BadText", (D.exc C_BadText fs_BadText.reverse [b, a]), .lst [a, b], .lst [a, b]], D.tup [.str "BadPoly", (D.exc C_BadPoly fs_BadPoly.reverse [a]), .lst [a], .lst [a]], D.tup [.str "BadPoly", (D.exc C_BadPoly fs_BadPoly.reverse [a]), .lst [a], .lst [a]], D.tup [.str "BadTower", (D.exc C_BadTower fs_BadTower.reverse [b, a]), .lst [a, b], .lst [a, b]]]) rfl ?_
    simp only [s_onE, w_bind, w_pure, w_need, w_calm, g_0, g_s]
    exact ⟨fits_small (by simp), _, (attB_ok att (C := C_BadTower) (fs := fs_BadTower) (by simp) (f := "what") (by simp)).1, (attB_ok att (C := C_BadTower) (fs := fs_BadTower) (by simp) (f := "what") (by simp)).2, rfl, _, (attB_ok att (C := C_BadTower) (fs := fs_BadTower) (by simp) (f := "value") (by simp)).1, (attB_ok att (C := C_BadTower) (fs := fs_BadTower) (by simp) (f := "value") (by simp)).2, rfl, fits_small (by simp), fits_small (by simp), by rw [sizeLine_eq]; simp, hnx _ _ ⟨rfl, rfl⟩⟩
  intro ρ1 n1 h1
  obtain ⟨e1, e2⟩ := h1
  rw [e1, e2]
  clear e1 e2 ρ1 n1
  refine seq_split (fun ρ' n' => ρ' = [some (.d a), some (.d b), some (.d c), some (.ml [D.tup [.str "BadNumber", (D.exc C_BadNumber fs_BadNumber.reverse [b, a]), .lst [a, b], .lst [a, b]], D.tup [.str "BadNumber", (D.exc C_BadNumber fs_BadNumber.reverse [b, a]), .lst [a, b], .lst [a, b]], D.tup [.str "BadText", (D.exc C_BadText fs_BadText.reverse [b, a]), .lst [a, b], .lst [a, b]], D.tup [.str "BadText", (D.exc C_BadText fs_BadText.reverse [b, a]), .lst [a, b], .lst [a, b]], D.tup [.str "BadPoly", (D.exc C_BadPoly fs_BadPoly.reverse [a]), .lst [a], .lst [a]], D.tup [.str "BadPoly", (D.exc C_BadPoly fs_BadPoly.reverse [a]), .lst [a], .lst [a]], D.tup [.str "BadTower", (D.exc C_BadTower fs_BadTower.reverse [b, a]), .lst [a, b], .lst [a, b]], D.tup [.str "BadTower", (D.exc C_BadTower fs_BadTower.reverse [b, a]), .lst [a, b], .lst [a, b]]]), some (.d (D.exc C_BadRow fs_BadRow.reverse [a])), some (.d (D.exc C_BadTower fs_BadTower.reverse [b, a])), none, none, none, none] ∧ n' = m0) ?R17 (fun nx hnx => ?S17)
  case S17 =>
    rw [s_asg]
    simp only [s_onE, w_bind, w_pure, w_need, w_calm, g_0, g_s]
    exact ⟨rfl, hnx _ _ ⟨rfl, rfl⟩⟩
  intro ρ1 n1 h1
  obtain ⟨e1, e2⟩ := h1
  rw [e1, e2]
  clear e1 e2 ρ1 n1
  refine seq_split (fun ρ' n' => ρ' = [some (.d a), some (.d b), some (.d c), some (.ml [D.tup [.str "BadNumber", (D.exc C_BadNumber fs_BadNumber.reverse [b, a]), .lst [a, b], .lst [a, b]], D.tup [.str "BadNumber", (D.exc C_BadNumber fs_BadNumber.reverse [b, a]), .lst [a, b], .lst [a, b]], D.tup [.str "BadText", (D.exc C_BadText fs_BadText.reverse [b, a]), .lst [a, b], .lst [a, b]], D.tup [.str "BadText", (D.exc C_BadText fs_BadText.reverse [b, a]), .lst [a, b], .lst [a, b]], D.tup [.str "BadPoly", (D.exc C_BadPoly fs_BadPoly.reverse [a]), .lst [a], .lst [a]], D.tup [.str "BadPoly", (D.exc C_BadPoly fs_BadPoly.reverse [a]), .lst [a], .lst [a]], D.tup [.str "BadTower", (D.exc C_BadTower fs_BadTower.reverse [b, a]), .lst [a, b], .lst [a, b]], D.tup [.str "BadTower", (D.exc C_BadTower fs_BadTower.reverse [b, a]), .lst [a, b], .lst [a, b]]]), some (.d (D.exc C_BadRow fs_BadRow.reverse [a])), some (.d (D.exc C_BadRow fs_BadRow.reverse [a])), none, none, none, none] ∧ n' = m0) ?R18 (fun nx hnx => ?S18)
  case S18 =>
    rw [s_asg]
    simp only [s_onE, w_bind, w_pure, w_need, w_calm, g_0, g_s]
    exact ⟨rfl, hnx _ _ ⟨rfl, rfl⟩⟩
  intro ρ1 n1 h1
  obtain ⟨e1, e2⟩ := h1
  rw [e1, e2]
  clear e1 e2 ρ1 n1
  refine seq_split (fun ρ' n' => ρ' = [some (.d a), some (.d b), some (.d c), some (.ml [D.tup [.str "BadNumber", (D.exc C_BadNumber fs_BadNumber.reverse [b, a]), .lst [a, b], .lst [a, b]], D.tup [.str "BadNumber", (D.exc C_BadNumber fs_BadNumber.reverse [b, a]), .lst [a, b], .lst [a, b]], D.tup [.str "BadText", (D.exc C_BadText fs_BadText.reverse [b, a]), .lst [a, b], .lst [a, b]], D.tup [.str "BadText", (D.exc C_BadText fs_BadText.reverse [b, a]), .lst [a, b], .lst [a, b]], D.tup [.str "BadPoly", (D.exc C_BadPoly fs_BadPoly.reverse [a]), .lst [a], .lst [a]], D.tup [.str "BadPoly", (D.exc C_BadPoly fs_BadPoly.reverse [a]), .lst [a], .lst [a]], D.tup [.str "BadTower", (D.exc C_BadTower fs_BadTower.reverse [b, a]), .lst [a, b], .lst [a, b]], D.tup [.str "BadTower", (D.exc C_BadTower fs_BadTower.reverse [b, a]), .lst [a, b], .lst [a, b]], D.tup [.str "BadRow", (D.exc C_BadRow fs_BadRow.reverse [a]), .lst [a], .lst [a]]]), some (.d (D.exc C_BadRow fs_BadRow.reverse [a])), some (.d (D.exc C_BadRow fs_BadRow.reverse [a])), none, none, none, none] ∧ n' = m0) ?R19 (fun nx hnx => ?S19)
  case S19 =>
    refine app_intro (ds := [D.tup [.str "BadNumber", (D.exc C_BadNumber fs_BadNumber.reverse [b, a]), .lst [a, b], .lst [a, b]], D.tup [.str "BadNumber", (D.exc C_BadNumber fs_BadNumber.reverse [b, a]), .lst [a, b], .lst [a, b]], D.tup [.str "BadText", (D.exc C_BadText fs_BadText.reverse [b, a]), .lst [a, b], .lst [a, b]], D.tup [.str "BadText", (D.exc C_BadText fs_BadText.reverse [b, a]), .lst [a, b], .lst [a, b]], D.tup [.str "BadPoly", (D.exc C_BadPoly fs_BadPoly.reverse [a]), .lst [a], .lst [a]], D.tup [.str "BadPoly", (D.exc C_BadPoly fs_BadPoly.reverse [a]), .lst [a], .lst [a]], D.tup [.str "BadTower", (D.exc C_BadTower fs_BadTower.reverse [b, a]), .lst [a, b], .lst [a, b]], D.tup [.str "BadTower", (D.exc C_BadTower fs_BadTower.reverse [b, a]), .lst [a, b], .lst [a, b]]]) rfl ?_
    simp only [s_onE, w_bind, w_pure, w_need, w_calm, g_0, g_s]
    exact ⟨fits_small (by simp), _, (attB_ok att (C := C_BadRow) (fs := fs_BadRow) (by simp) (f := "row") (by simp)).1, (attB_ok att (C := C_BadRow) (fs := fs_BadRow) (by simp) (f := "row") (by simp)).2, rfl, fits_small (by simp), fits_small (by simp), by rw [sizeLine_eq]; simp, hnx _ _ ⟨rfl, rfl⟩⟩
  intro ρ1 n1 h1
  obtain ⟨e1, e2⟩ := h1
  rw [e1, e2]
  clear e1 e2 ρ1 n1
  refine seq_split (fun ρ' n' => ρ' = [some (.d a), some (.d b), some (.d c), some (.ml [D.tup [.str "BadNumber", (D.exc C_BadNumber fs_BadNumber.reverse [b, a]), .lst [a, b], .lst [a, b]], D.tup [.str "BadNumber", (D.exc C_BadNumber fs_BadNumber.reverse [b, a]), .lst [a, b], .lst [a, b]], D.tup [.str "BadText", (D.exc C_BadText fs_BadText.reverse [b, a]), .lst [a, b], .lst [a, b]], D.tup [.str "BadText", (D.exc C_BadText fs_BadText.reverse [b, a]), .lst [a, b], .lst [a, b]], D.tup [.str "BadPoly", (D.exc C_BadPoly fs_BadPoly.reverse [a]), .lst [a], .lst [a]], D.tup [.str "BadPoly", (D.exc C_BadPoly fs_BadPoly.reverse [a]), .lst [a], .lst [a]], D.tup [.str "BadTower", (D.exc C_BadTower fs_BadTower.reverse [b, a]), .lst [a, b], .lst [a, b]], D.tup [.str "BadTower", (D.exc C_BadTower fs_BadTower.reverse [b, a]), .lst [a, b], .lst [a, b]], D.tup [.str "BadRow", (D.exc C_BadRow fs_BadRow.reverse [a]), .lst [a], .lst [a]], D.tup [.str "BadRow", (D.exc C_BadRow fs_BadRow.reverse [a]), .lst [a], .lst [a]]]), some (.d (D.exc C_BadRow fs_BadRow.reverse [a])), some (.d (D.exc C_BadRow fs_BadRow.reverse [a])), none, none, none, none] ∧ n' = m0) ?R20 (fun nx hnx => ?S20)
  case S20 =>
    refine app_intro (ds := [D.tup [.str "BadNumber", (D.exc C_BadNumber fs_BadNumber.reverse [b, a]), .lst [a, b], .lst [a, b]], D.tup [.str "BadNumber", (D.exc C_BadNumber fs_BadNumber.reverse [b, a]), .lst [a, b], .lst [a, b]], D.tup [.str "BadText", (D.exc C_BadText fs_BadText.reverse [b, a]), .lst [a, b], .lst [a, b]], D.tup [.str "BadText", (D.exc C_BadText fs_BadText.reverse [b, a]), .lst [a, b], .lst [a, b]], D.tup [.str "BadPoly", (D.exc C_BadPoly fs_BadPoly.reverse [a]), .lst [a], .lst [a]], D.tup [.str "BadPoly", (D.exc C_BadPoly fs_BadPoly.reverse [a]), .lst [a], .lst [a]], D.tup [.str "BadTower", (D.exc C_BadTower fs_BadTower.reverse [b, a]), .lst [a, b], .lst [a, b]], D.tup [.str "BadTower", (D.exc C_BadTower fs_BadTower.reverse [b, a]), .lst [a, b], .lst [a, b]], D.tup [.str "BadRow", (D.exc C_BadRow fs_BadRow.reverse [a]), .lst [a], .lst [a]]]) rfl ?_
    simp only [s_onE, w_bind, w_pure, w_need, w_calm, g_0, g_s]
    exact ⟨fits_small (by simp), _, (attB_ok att (C := C_BadRow) (fs := fs_BadRow) (by simp) (f := "row") (by simp)).1, (attB_ok att (C := C_BadRow) (fs := fs_BadRow) (by simp) (f := "row") (by simp)).2, rfl, fits_small (by simp), fits_small (by simp), by rw [sizeLine_eq]; simp, hnx _ _ ⟨rfl, rfl⟩⟩
  intro ρ1 n1 h1
  obtain ⟨e1, e2⟩ := h1
  rw [e1, e2]
  clear e1 e2 ρ1 n1
  refine seq_split (fun ρ' n' => ρ' = [some (.d a), some (.d b), some (.d c), some (.ml [D.tup [.str "BadNumber", (D.exc C_BadNumber fs_BadNumber.reverse [b, a]), .lst [a, b], .lst [a, b]], D.tup [.str "BadNumber", (D.exc C_BadNumber fs_BadNumber.reverse [b, a]), .lst [a, b], .lst [a, b]], D.tup [.str "BadText", (D.exc C_BadText fs_BadText.reverse [b, a]), .lst [a, b], .lst [a, b]], D.tup [.str "BadText", (D.exc C_BadText fs_BadText.reverse [b, a]), .lst [a, b], .lst [a, b]], D.tup [.str "BadPoly", (D.exc C_BadPoly fs_BadPoly.reverse [a]), .lst [a], .lst [a]], D.tup [.str "BadPoly", (D.exc C_BadPoly fs_BadPoly.reverse [a]), .lst [a], .lst [a]], D.tup [.str "BadTower", (D.exc C_BadTower fs_BadTower.reverse [b, a]), .lst [a, b], .lst [a, b]], D.tup [.str "BadTower", (D.exc C_BadTower fs_BadTower.reverse [b, a]), .lst [a, b], .lst [a, b]], D.tup [.str "BadRow", (D.exc C_BadRow fs_BadRow.reverse [a]), .lst [a], .lst [a]], D.tup [.str "BadRow", (D.exc C_BadRow fs_BadRow.reverse [a]), .lst [a], .lst [a]]]), some (.d (D.exc C_BadTable fs_BadTable.reverse [a])), some (.d (D.exc C_BadRow fs_BadRow.reverse [a])), none, none, none, none] ∧ n' = m0) ?R21 (fun nx hnx => ?S21)
  case S21 =>
    rw [s_asg]
    simp only [s_onE, w_bind, w_pure, w_need, w_calm, g_0, g_s]
    exact ⟨rfl, hnx _ _ ⟨rfl, rfl⟩⟩
  intro ρ1 n1 h1
  obtain ⟨e1, e2⟩ := h1
  rw [e1, e2]
  clear e1 e2 ρ1 n1
  refine seq_split (fun ρ' n' => ρ' = [some (.d a), some (.d b), some (.d c), some (.ml [D.tup [.str "BadNumber", (D.exc C_BadNumber fs_BadNumber.reverse [b, a]), .lst [a, b], .lst [a, b]], D.tup [.str "BadNumber", (D.exc C_BadNumber fs_BadNumber.reverse [b, a]), .lst [a, b], .lst [a, b]], D.tup [.str "BadText", (D.exc C_BadText fs_BadText.reverse [b, a]), .lst [a, b], .lst [a, b]], D.tup [.str "BadText", (D.exc C_BadText fs_BadText.reverse [b, a]), .lst [a, b], .lst [a, b]], D.tup [.str "BadPoly", (D.exc C_BadPoly fs_BadPoly.reverse [a]), .lst [a], .lst [a]], D.tup [.str "BadPoly", (D.exc C_BadPoly fs_BadPoly.reverse [a]), .lst [a], .lst [a]], D.tup [.str "BadTower", (D.exc C_BadTower fs_BadTower.reverse [b, a]), .lst [a, b], .lst [a, b]], D.tup [.str "BadTower", (D.exc C_BadTower fs_BadTower.reverse [b, a]), .lst [a, b], .lst [a, b]], D.tup [.str "BadRow", (D.exc C_BadRow fs_BadRow.reverse [a]), .lst [a], .lst [a]], D.tup [.str "BadRow", (D.exc C_BadRow fs_BadRow.reverse [a]), .lst [a], .lst [a]]]), some (.d (D.exc C_BadTable fs_BadTable.reverse [a])), some (.d (D.exc C_BadTable fs_BadTable.reverse [a])), none, none, none, none] ∧ n' = m0) ?R22 (fun nx hnx => ?S22)
  case S22 =>
    rw [s_asg]
    simp only [s_onE, w_bind, w_pure, w_need, w_calm, g_0, g_s]
    exact ⟨rfl, hnx _ _ ⟨rfl, rfl⟩⟩
  intro ρ1 n1 h1
  obtain ⟨e1, e2⟩ := h1
  rw [e1, e2]
  clear e1 e2 ρ1 n1
  refine seq_split (fun ρ' n' => ρ' = [some (.d a), some (.d b), some (.d c), some (.ml [D.tup [.str "BadNumber", (D.exc C_BadNumber fs_BadNumber.reverse [b, a]), .lst [a, b], .lst [a, b]], D.tup [.str "BadNumber", (D.exc C_BadNumber fs_BadNumber.reverse [b, a]), .lst [a, b], .lst [a, b]], D.tup [.str "BadText", (D.exc C_BadText fs_BadText.reverse [b, a]), .lst [a, b], .lst [a, b]], D.tup [.str "BadText", (D.exc C_BadText fs_BadText.reverse [b, a]), .lst [a, b], .lst [a, b]], D.tup [.str "BadPoly", (D.exc C_BadPoly fs_BadPoly.reverse [a]), .lst [a], .lst [a]], D.tup [.str "BadPoly", (D.exc C_BadPoly fs_BadPoly.reverse [a]), .lst [a], .lst [a]], D.tup [.str "BadTower", (D.exc C_BadTower fs_BadTower.reverse [b, a]), .lst [a, b], .lst [a, b]], D.tup [.str "BadTower", (D.exc C_BadTower fs_BadTower.reverse [b, a]), .lst [a, b], .lst [a, b]], D.tup [.str "BadRow", (D.exc C_BadRow fs_BadRow.reverse [a]), .lst [a], .lst [a]], D.tup [.str "BadRow", (D.exc C_BadRow fs_BadRow.reverse [a]), .lst [a], .lst [a]], D.tup [.str "BadTable", (D.exc C_BadTable fs_BadTable.reverse [a]), .lst [a], .lst [a]]]), some (.d (D.exc C_BadTable fs_BadTable.reverse [a])), some (.d (D.exc C_BadTable fs_BadTable.reverse [a])), none, none, none, none] ∧ n' = m0) ?R23 (fun nx hnx => ?S23)
  case S23 =>
    refine app_intro (ds := [D.tup [.str "BadNumber", (D.exc C_BadNumber fs_BadNumber.reverse [b, a]), .lst [a, b], .lst [a, b]], D.tup [.str "BadNumber", (D.exc C_BadNumber fs_BadNumber.reverse [b, a]), .lst [a, b], .lst [a, b]], D.tup [.str "BadText", (D.exc C_BadText fs_BadText.reverse [b, a]), .lst [a, b], .lst [a, b]], D.tup [.str "BadText", (D.exc C_BadText fs_BadText.reverse [b, a]), .lst [a, b], .lst [a, b]], D.tup [.str "BadPoly", (D.exc C_BadPoly fs_BadPoly.reverse [a]), .lst [a], .lst [a]], D.tup [.str "BadPoly", (D.exc C_BadPoly fs_BadPoly.reverse [a]), .lst [a], .lst [a]], D.tup [.str "BadTower", (D.exc C_BadTower fs_BadTower.reverse [b, a]), .lst [a, b], .lst [a, b]], D.tup [.str "BadTower", (D.exc C_BadTower fs_BadTower.reverse [b, a]), .lst [a, b], .lst [a, b]], D.tup [.str "BadRow", (D.exc C_BadRow fs_BadRow.reverse [a]), .lst [a], .lst [a]], D.tup [.str "BadRow", (D.exc C_BadRow fs_BadRow.reverse [a]), .lst [a], .lst [a]]]) rfl ?_
    simp only [s_onE, w_bind, w_pure, w_need, w_calm, g_0, g_s]
    exact ⟨fits_small (by simp), _, (attB_ok att (C := C_BadTable) (fs := fs_BadTable) (by simp) (f := "table") (by simp)).1, (attB_ok att (C := C_BadTable) (fs := fs_BadTable) (by simp) (f := "table") (by simp)).2, rfl, fits_small (by simp), fits_small (by simp), by rw [sizeLine_eq]; simp, hnx _ _ ⟨rfl, rfl⟩⟩
  intro ρ1 n1 h1
  obtain ⟨e1, e2⟩ := h1
  rw [e1, e2]
  clear e1 e2 ρ1 n1
  refine seq_split (fun ρ' n' => ρ' = [some (.d a), some (.d b), some (.d c), some (.ml [D.tup [.str "BadNumber", (D.exc C_BadNumber fs_BadNumber.reverse [b, a]), .lst [a, b], .lst [a, b]], D.tup [.str "BadNumber", (D.exc C_BadNumber fs_BadNumber.reverse [b, a]), .lst [a, b], .lst [a, b]], D.tup [.str "BadText", (D.exc C_BadText fs_BadText.reverse [b, a]), .lst [a, b], .lst [a, b]], D.tup [.str "BadText", (D.exc C_BadText fs_BadText.reverse [b, a]), .lst [a, b], .lst [a, b]], D.tup [.str "BadPoly", (D.exc C_BadPoly fs_BadPoly.reverse [a]), .lst [a], .lst [a]], D.tup [.str "BadPoly", (D.exc C_BadPoly fs_BadPoly.reverse [a]), .lst [a], .lst [a]], D.tup [.str "BadTower", (D.exc C_BadTower fs_BadTower.reverse [b, a]), .lst [a, b], .lst [a, b]], D.tup [.str "BadTower", (D.exc C_BadTower fs_BadTower.reverse [b, a]), .lst [a, b], .lst [a, b]], D.tup [.str "BadRow", (D.exc C_BadRow fs_BadRow.reverse [a]), .lst [a], .lst [a]], D.tup [.str "BadRow", (D.exc C_BadRow fs_BadRow.reverse [a]), .lst [a], .lst [a]], D.tup [.str "BadTable", (D.exc C_BadTable fs_BadTable.reverse [a]), .lst [a], .lst [a]], D.tup [.str "BadTable", (D.exc C_BadTable fs_BadTable.reverse [a]), .lst [a], .lst [a]]]), some (.d (D.exc C_BadTable fs_BadTable.reverse [a])), some (.d (D.exc C_BadTable fs_BadTable.reverse [a])), none, none, none, none] ∧ n' = m0) ?R24 (fun nx hnx => ?S24)
  case S24 =>
    refine app_intro (ds := [D.tup [.str "BadNumber", (D.exc C_BadNumber fs_BadNumber.reverse [b, a]), .lst [a, b], .lst [a, b]], D.tup [.str "BadNumber", (D.exc C_BadNumber fs_BadNumber.reverse [b, a]), .lst [a, b], .lst [a, b]], D.tup [.str "BadText", (D.exc C_BadText fs_BadText.reverse [b, a]), .lst [a, b], .lst [a, b]], D.tup [.str "BadText", (D.exc C_BadText fs_BadText.reverse [b, a]), .lst [a, b], .lst [a, b]], D.tup [.str "BadPoly", (D.exc C_BadPoly fs_BadPoly.reverse [a]), .lst [a], .lst [a]], D.tup [.str "BadPoly", (D.exc C_BadPoly fs_BadPoly.reverse [a]), .lst [a], .lst [a]], D.tup [.str "BadTower", (D.exc C_BadTower fs_BadTower.reverse [b, a]), .lst [a, b], .lst [a, b]], D.tup [.str "BadTower", (D.exc C_BadTower fs_BadTower.reverse [b, a]), .lst [a, b], .lst [a, b]], D.tup [.str "BadRow", (D.exc C_BadRow fs_BadRow.reverse [a]), .lst [a], .lst [a]], D.tup [.str "BadRow", (D.exc C_BadRow fs_BadRow.reverse [a]), .lst [a], .lst [a]], D.tup [.str "BadTable", (D.exc C_BadTable fs_BadTable.reverse [a]), .lst [a], .lst [a]]]) rfl ?_
    simp only [s_onE, w_bind, w_pure, w_need, w_calm, g_0, g_s]
    exact ⟨fits_small (by simp), _, (attB_ok att (C := C_BadTable) (fs := fs_BadTable) (by simp) (f := "table") (by simp)).1, (attB_ok att (C := C_BadTable) (fs := fs_BadTable) (by simp) (f := "table") (by simp)).2, rfl, fits_small (by simp), fits_small (by simp), by rw [sizeLine_eq]; simp, hnx _ _ ⟨rfl, rfl⟩⟩
  intro ρ1 n1 h1
  obtain ⟨e1, e2⟩ := h1
  rw [e1, e2]
  clear e1 e2 ρ1 n1
  refine seq_split (fun ρ' n' => ρ' = [some (.d a), some (.d b), some (.d c), some (.ml [D.tup [.str "BadNumber", (D.exc C_BadNumber fs_BadNumber.reverse [b, a]), .lst [a, b], .lst [a, b]], D.tup [.str "BadNumber", (D.exc C_BadNumber fs_BadNumber.reverse [b, a]), .lst [a, b], .lst [a, b]], D.tup [.str "BadText", (D.exc C_BadText fs_BadText.reverse [b, a]), .lst [a, b], .lst [a, b]], D.tup [.str "BadText", (D.exc C_BadText fs_BadText.reverse [b, a]), .lst [a, b], .lst [a, b]], D.tup [.str "BadPoly", (D.exc C_BadPoly fs_BadPoly.reverse [a]), .lst [a], .lst [a]], D.tup [.str "BadPoly", (D.exc C_BadPoly fs_BadPoly.reverse [a]), .lst [a], .lst [a]], D.tup [.str "BadTower", (D.exc C_BadTower fs_BadTower.reverse [b, a]), .lst [a, b], .lst [a, b]], D.tup [.str "BadTower", (D.exc C_BadTower fs_BadTower.reverse [b, a]), .lst [a, b], .lst [a, b]], D.tup [.str "BadRow", (D.exc C_BadRow fs_BadRow.reverse [a]), .lst [a], .lst [a]], D.tup [.str "BadRow", (D.exc C_BadRow fs_BadRow.reverse [a]), .lst [a], .lst [a]], D.tup [.str "BadTable", (D.exc C_BadTable fs_BadTable.reverse [a]), .lst [a], .lst [a]], D.tup [.str "BadTable", (D.exc C_BadTable fs_BadTable.reverse [a]), .lst [a], .lst [a]]]), some (.d (D.exc C_BadPaper fs_BadPaper.reverse [a])), some (.d (D.exc C_BadTable fs_BadTable.reverse [a])), none, none, none, none] ∧ n' = m0) ?R25 (fun nx hnx => ?S25)
  case S25 =>
    rw [s_asg]
    simp only [s_onE, w_bind, w_pure, w_need, w_calm, g_0, g_s]
    exact ⟨rfl, hnx _ _ ⟨rfl, rfl⟩⟩
  intro ρ1 n1 h1
  obtain ⟨e1, e2⟩ := h1
  rw [e1, e2]
  clear e1 e2 ρ1 n1
  refine seq_split (fun ρ' n' => ρ' = [some (.d a), some (.d b), some (.d c), some (.ml [D.tup [.str "BadNumber", (D.exc C_BadNumber fs_BadNumber.reverse [b, a]), .lst [a, b], .lst [a, b]], D.tup [.str "BadNumber", (D.exc C_BadNumber fs_BadNumber.reverse [b, a]), .lst [a, b], .lst [a, b]], D.tup [.str "BadText", (D.exc C_BadText fs_BadText.reverse [b, a]), .lst [a, b], .lst [a, b]], D.tup [.str "BadText", (D.exc C_BadText fs_BadText.reverse [b, a]), .lst [a, b], .lst [a, b]], D.tup [.str "BadPoly", (D.exc C_BadPoly fs_BadPoly.reverse [a]), .lst [a], .lst [a]], D.tup [.str "BadPoly", (D.exc C_BadPoly fs_BadPoly.reverse [a]), .lst [a], .lst [a]], D.tup [.str "BadTower", (D.exc C_BadTower fs_BadTower.reverse [b, a]), .lst [a, b], .lst [a, b]], D.tup [.str "BadTower", (D.exc C_BadTower fs_BadTower.reverse [b, a]), .lst [a, b], .lst [a, b]], D.tup [.str "BadRow", (D.exc C_BadRow fs_BadRow.reverse [a]), .lst [a], .lst [a]], D.tup [.str "BadRow", (D.exc C_BadRow fs_BadRow.reverse [a]), .lst [a], .lst [a]], D.tup [.str "BadTable", (D.exc C_BadTable fs_BadTable.reverse [a]), .lst [a], .lst [a]], D.tup [.str "BadTable", (D.exc C_BadTable fs_BadTable.reverse [a]), .lst [a], .lst [a]]]), some (.d (D.exc C_BadPaper fs_BadPaper.reverse [a])), some (.d (D.exc C_BadPaper fs_BadPaper.reverse [a])), none, none, none, none] ∧ n' = m0) ?R26 (fun nx hnx => ?S26)
  case S26 =>
    rw [s_asg]
    simp only [s_onE, w_bind, w_pure, w_need, w_calm, g_0, g_s]
    exact ⟨rfl, hnx _ _ ⟨rfl, rfl⟩⟩
  intro ρ1 n1 h1
  obtain ⟨e1, e2⟩ := h1
  rw [e1, e2]
  clear e1 e2 ρ1 n1
  refine seq_split (fun ρ' n' => ρ' = [some (.d a), some (.d b), some (.d c), some (.ml [D.tup [.str "BadNumber", (D.exc C_BadNumber fs_BadNumber.reverse [b, a]), .lst [a, b], .lst [a, b]], D.tup [.str "BadNumber", (D.exc C_BadNumber fs_BadNumber.reverse [b, a]), .lst [a, b], .lst [a, b]], D.tup [.str "BadText", (D.exc C_BadText fs_BadText.reverse [b, a]), .lst [a, b], .lst [a, b]], D.tup [.str "BadText", (D.exc C_BadText fs_BadText.reverse [b, a]), .lst [a, b], .lst [a, b]], D.tup [.str "BadPoly", (D.exc C_BadPoly fs_BadPoly.reverse [a]), .lst [a], .lst [a]], D.tup [.str "BadPoly", (D.exc C_BadPoly fs_BadPoly.reverse [a]), .lst [a], .lst [a]], D.tup [.str "BadTower", (D.exc C_BadTower fs_BadTower.reverse [b, a]), .lst [a, b], .lst [a, b]], D.tup [.str "BadTower", (D.exc C_BadTower fs_BadTower.reverse [b, a]), .lst [a, b], .lst [a, b]], D.tup [.str "BadRow", (D.exc C_BadRow fs_BadRow.reverse [a]), .lst [a], .lst [a]], D.tup [.str "BadRow", (D.exc C_BadRow fs_BadRow.reverse [a]), .lst [a], .lst [a]], D.tup [.str "BadTable", (D.exc C_BadTable fs_BadTable.reverse [a]), .lst [a], .lst [a]], D.tup [.str "BadTable", (D.exc C_BadTable fs_BadTable.reverse [a]), .lst [a], .lst [a]], D.tup [.str "BadPaper", (D.exc C_BadPaper fs_BadPaper.reverse [a]), .lst [a], .lst [a]]]), some (.d (D.exc C_BadPaper fs_BadPaper.reverse [a])), some (.d (D.exc C_BadPaper fs_BadPaper.reverse [a])), none, none, none, none] ∧ n' = m0) ?R27 (fun nx hnx => ?S27)
  case S27 =>
    refine app_intro (ds := [D.tup [.str "BadNumber", (D.exc C_BadNumber fs_BadNumber.reverse [b, a]), .lst [a, b], .lst [a, b]], D.tup [.str "BadNumber", (D.exc C_BadNumber fs_BadNumber.reverse [b, a]), .lst [a, b], .lst [a, b]], D.tup [.str "BadText", (D.exc C_BadText fs_BadText.reverse [b, a]), .lst [a, b], .lst [a, b]], D.tup [.str "BadText", (D.exc C_BadText fs_BadText.reverse [b, a]), .lst [a, b], .lst [a, b]], D.tup [.str "BadPoly", (D.exc C_BadPoly fs_BadPoly.reverse [a]), .lst [a], .lst [a]], D.tup [.str "BadPoly", (D.exc C_BadPoly fs_BadPoly.reverse [a]), .lst [a], .lst [a]], D.tup [.str "BadTower", (D.exc C_BadTower fs_BadTower.reverse [b, a]), .lst [a, b], .lst [a, b]], D.tup [.str "BadTower", (D.exc C_BadTower fs_BadTower.reverse [b, a]), .lst [a, b], .lst [a, b]], D.tup [.str "BadRow", (D.exc C_BadRow fs_BadRow.reverse [a]), .lst [a], .lst [a]], D.tup [.str "BadRow", (D.exc C_BadRow fs_BadRow.reverse [a]), .lst [a], .lst [a]], D.tup [.str "BadTable", (D.exc C_BadTable fs_BadTable.reverse [a]), .lst [a], .lst [a]], D.tup [.str "BadTable", (D.exc C_BadTable fs_BadTable.reverse [a]), .lst [a], .lst [a]]]) rfl ?_
    simp only [s_onE, w_bind, w_pure, w_need, w_calm, g_0, g_s]
    exact ⟨fits_small (by simp), _, (attB_ok att (C := C_BadPaper) (fs := fs_BadPaper) (by simp) (f := "value") (by simp)).1, (attB_ok att (C := C_BadPaper) (fs := fs_BadPaper) (by simp) (f := "value") (by simp)).2, rfl, fits_small (by simp), fits_small (by simp), by rw [sizeLine_eq]; simp, hnx _ _ ⟨rfl, rfl⟩⟩
  intro ρ1 n1 h1
  obtain ⟨e1, e2⟩ := h1
  rw [e1, e2]
  clear e1 e2 ρ1 n1
  refine seq_split (fun ρ' n' => ρ' = [some (.d a), some (.d b), some (.d c), some (.ml [D.tup [.str "BadNumber", (D.exc C_BadNumber fs_BadNumber.reverse [b, a]), .lst [a, b], .lst [a, b]], D.tup [.str "BadNumber", (D.exc C_BadNumber fs_BadNumber.reverse [b, a]), .lst [a, b], .lst [a, b]], D.tup [.str "BadText", (D.exc C_BadText fs_BadText.reverse [b, a]), .lst [a, b], .lst [a, b]], D.tup [.str "BadText", (D.exc C_BadText fs_BadText.reverse [b, a]), .lst [a, b], .lst [a, b]], D.tup [.str "BadPoly", (D.exc C_BadPoly fs_BadPoly.reverse [a]), .lst [a], .lst [a]], D.tup [.str "BadPoly", (D.exc C_BadPoly fs_BadPoly.reverse [a]), .lst [a], .lst [a]], D.tup [.str "BadTower", (D.exc C_BadTower fs_BadTower.reverse [b, a]), .lst [a, b], .lst [a, b]], D.tup [.str "BadTower", (D.exc C_BadTower fs_BadTower.reverse [b, a]), .lst [a, b], .lst [a, b]], D.tup [.str "BadRow", (D.exc C_BadRow fs_BadRow.reverse [a]), .lst [a], .lst [a]], D.tup [.str "BadRow", (D.exc C_BadRow fs_BadRow.reverse [a]), .lst [a], .lst [a]], D.tup [.str "BadTable", (D.exc C_BadTable fs_BadTable.reverse [a]), .lst [a], .lst [a]], D.tup [.str "BadTable", (D.exc C_BadTable fs_BadTable.reverse [a]), .lst [a], .lst [a]], D.tup [.str "BadPaper", (D.exc C_BadPaper fs_BadPaper.reverse [a]), .lst [a], .lst [a]], D.tup [.str "BadPaper", (D.exc C_BadPaper fs_BadPaper.reverse [a]), .lst [a], .lst [a]]]), some (.d (D.exc C_BadPaper fs_BadPaper.reverse [a])), some (.d (D.exc C_BadPaper fs_BadPaper.reverse [a])), none, none, none, none] ∧ n' = m0) ?R28 (fun nx hnx => ?S28)
  case S28 =>
    refine app_intro (ds := [D.tup [.str "BadNumber", (D.exc C_BadNumber fs_BadNumber.reverse [b, a]), .lst [a, b], .lst [a, b]], D.tup [.str "BadNumber", (D.exc C_BadNumber fs_BadNumber.reverse [b, a]), .lst [a, b], .lst [a, b]], D.tup [.str "BadText", (D.exc C_BadText fs_BadText.reverse [b, a]), .lst [a, b], .lst [a, b]], D.tup [.str "BadText", (D.exc C_BadText fs_BadText.reverse [b, a]), .lst [a, b], .lst [a, b]], D.tup [.str "BadPoly", (D.exc C_BadPoly fs_BadPoly.reverse [a]), .lst [a], .lst [a]], D.tup [.str "BadPoly", (D.exc C_BadPoly fs_BadPoly.reverse [a]), .lst [a], .lst [a]], D.tup [.str "BadTower", (D.exc C_BadTower fs_BadTower.reverse [b, a]), .lst [a, b], .lst [a, b]], D.tup [.str "BadTower", (D.exc C_BadTower fs_BadTower.reverse [b, a]), .lst [a, b], .lst [a, b]], D.tup [.str "BadRow", (D.exc C_BadRow fs_BadRow.reverse [a]), .lst [a], .lst [a]], D.tup [.str "BadRow", (D.exc C_BadRow fs_BadRow.reverse [a]), .lst [a], .lst [a]], D.tup [.str "BadTable", (D.exc C_BadTable fs_BadTable.reverse [a]), .lst [a], .lst [a]], D.tup [.str "BadTable", (D.exc C_BadTable fs_BadTable.reverse [a]), .lst [a], .lst [a]], D.tup [.str "BadPaper", (D.exc C_BadPaper fs_BadPaper.reverse [a]), .lst [a], .lst [a]]]) rfl ?_
    simp only [s_onE, w_bind, w_pure, w_need, w_calm, g_0, g_s]
    exact ⟨fits_small (by simp), _, (attB_ok att (C := C_BadPaper) (fs := fs_BadPaper) (by simp) (f := "value") (by simp)).1, (attB_ok att (C := C_BadPaper) (fs := fs_BadPaper) (by simp) (f := "value") (by simp)).2, rfl, fits_small (by simp), fits_small (by simp), by rw [sizeLine_eq]; simp, hnx _ _ ⟨rfl, rfl⟩⟩
  intro ρ1 n1 h1
  obtain ⟨e1, e2⟩ := h1
  rw [e1, e2]
  clear e1 e2 ρ1 n1
  have hrows : ∀ t ∈ ([D.tup [.str "BadNumber", (D.exc C_BadNumber fs_BadNumber.reverse [b, a]), .lst [a, b], .lst [a, b]], D.tup [.str "BadNumber", (D.exc C_BadNumber fs_BadNumber.reverse [b, a]), .lst [a, b], .lst [a, b]], D.tup [.str "BadText", (D.exc C_BadText fs_BadText.reverse [b, a]), .lst [a, b], .lst [a, b]], D.tup [.str "BadText", (D.exc C_BadText fs_BadText.reverse [b, a]), .lst [a, b], .lst [a, b]], D.tup [.str "BadPoly", (D.exc C_BadPoly fs_BadPoly.reverse [a]), .lst [a], .lst [a]], D.tup [.str "BadPoly", (D.exc C_BadPoly fs_BadPoly.reverse [a]), .lst [a], .lst [a]], D.tup [.str "BadTower", (D.exc C_BadTower fs_BadTower.reverse [b, a]), .lst [a, b], .lst [a, b]], D.tup [.str "BadTower", (D.exc C_BadTower fs_BadTower.reverse [b, a]), .lst [a, b], .lst [a, b]], D.tup [.str "BadRow", (D.exc C_BadRow fs_BadRow.reverse [a]), .lst [a], .lst [a]], D.tup [.str "BadRow", (D.exc C_BadRow fs_BadRow.reverse [a]), .lst [a], .lst [a]], D.tup [.str "BadTable", (D.exc C_BadTable fs_BadTable.reverse [a]), .lst [a], .lst [a]], D.tup [.str "BadTable", (D.exc C_BadTable fs_BadTable.reverse [a]), .lst [a], .lst [a]], D.tup [.str "BadPaper", (D.exc C_BadPaper fs_BadPaper.reverse [a]), .lst [a], .lst [a]], D.tup [.str "BadPaper", (D.exc C_BadPaper fs_BadPaper.reverse [a]), .lst [a], .lst [a]]] : List D), ∃ (nm : Str) (C : Addr) (ns : List Str) (fs : List D) (d : D), t = .tup [.str nm, .exc C ns fs, d, d] ∧ (nm, C) ∈ (KINDS C_BadNumber C_BadText C_BadPoly C_BadTower C_BadRow C_BadTable C_BadPaper C_Unlike C_TooMany C_BadName C_NoName C_TakenName C_NothingToUndo C_NothingToRedo) ∧ ShowsX d := by
    intro t ht
    simp only [List.mem_cons, List.not_mem_nil, or_false] at ht
    have s0 : ShowsX (.lst []) := shows_lst (by simp) (by simp)
    have s1 : ShowsX (.lst [a]) := shows_lst (by simp) (forall_one ha)
    have s2 : ShowsX (.lst [a, b]) := shows_lst (by simp) (forall_more ha (forall_one hb))
    have s3 : ShowsX (.lst [a, b, c]) := shows_lst (by simp) (forall_more ha (forall_more hb (forall_one hc)))
    rcases ht with rfl | rfl | rfl | rfl | rfl | rfl | rfl | rfl | rfl | rfl | rfl | rfl | rfl | rfl
    · exact ⟨"BadNumber", C_BadNumber, _, _, _, rfl, by simp, s2⟩
    · exact ⟨"BadNumber", C_BadNumber, _, _, _, rfl, by simp, s2⟩
    · exact ⟨"BadText", C_BadText, _, _, _, rfl, by simp, s2⟩
    · exact ⟨"BadText", C_BadText, _, _, _, rfl, by simp, s2⟩
    · exact ⟨"BadPoly", C_BadPoly, _, _, _, rfl, by simp, s1⟩
    · exact ⟨"BadPoly", C_BadPoly, _, _, _, rfl, by simp, s1⟩
    · exact ⟨"BadTower", C_BadTower, _, _, _, rfl, by simp, s2⟩
    · exact ⟨"BadTower", C_BadTower, _, _, _, rfl, by simp, s2⟩
    · exact ⟨"BadRow", C_BadRow, _, _, _, rfl, by simp, s1⟩
    · exact ⟨"BadRow", C_BadRow, _, _, _, rfl, by simp, s1⟩
    · exact ⟨"BadTable", C_BadTable, _, _, _, rfl, by simp, s1⟩
    · exact ⟨"BadTable", C_BadTable, _, _, _, rfl, by simp, s1⟩
    · exact ⟨"BadPaper", C_BadPaper, _, _, _, rfl, by simp, s1⟩
    · exact ⟨"BadPaper", C_BadPaper, _, _, _, rfl, by simp, s1⟩
  have hlen : ([D.tup [.str "BadNumber", (D.exc C_BadNumber fs_BadNumber.reverse [b, a]), .lst [a, b], .lst [a, b]], D.tup [.str "BadNumber", (D.exc C_BadNumber fs_BadNumber.reverse [b, a]), .lst [a, b], .lst [a, b]], D.tup [.str "BadText", (D.exc C_BadText fs_BadText.reverse [b, a]), .lst [a, b], .lst [a, b]], D.tup [.str "BadText", (D.exc C_BadText fs_BadText.reverse [b, a]), .lst [a, b], .lst [a, b]], D.tup [.str "BadPoly", (D.exc C_BadPoly fs_BadPoly.reverse [a]), .lst [a], .lst [a]], D.tup [.str "BadPoly", (D.exc C_BadPoly fs_BadPoly.reverse [a]), .lst [a], .lst [a]], D.tup [.str "BadTower", (D.exc C_BadTower fs_BadTower.reverse [b, a]), .lst [a, b], .lst [a, b]], D.tup [.str "BadTower", (D.exc C_BadTower fs_BadTower.reverse [b, a]), .lst [a, b], .lst [a, b]], D.tup [.str "BadRow", (D.exc C_BadRow fs_BadRow.reverse [a]), .lst [a], .lst [a]], D.tup [.str "BadRow", (D.exc C_BadRow fs_BadRow.reverse [a]), .lst [a], .lst [a]], D.tup [.str "BadTable", (D.exc C_BadTable fs_BadTable.reverse [a]), .lst [a], .lst [a]], D.tup [.str "BadTable", (D.exc C_BadTable fs_BadTable.reverse [a]), .lst [a], .lst [a]], D.tup [.str "BadPaper", (D.exc C_BadPaper fs_BadPaper.reverse [a]), .lst [a], .lst [a]], D.tup [.str "BadPaper", (D.exc C_BadPaper fs_BadPaper.reverse [a]), .lst [a], .lst [a]]] : List D).length = 14 := rfl
  refine frz_intro (ds := [D.tup [.str "BadNumber", (D.exc C_BadNumber fs_BadNumber.reverse [b, a]), .lst [a, b], .lst [a, b]], D.tup [.str "BadNumber", (D.exc C_BadNumber fs_BadNumber.reverse [b, a]), .lst [a, b], .lst [a, b]], D.tup [.str "BadText", (D.exc C_BadText fs_BadText.reverse [b, a]), .lst [a, b], .lst [a, b]], D.tup [.str "BadText", (D.exc C_BadText fs_BadText.reverse [b, a]), .lst [a, b], .lst [a, b]], D.tup [.str "BadPoly", (D.exc C_BadPoly fs_BadPoly.reverse [a]), .lst [a], .lst [a]], D.tup [.str "BadPoly", (D.exc C_BadPoly fs_BadPoly.reverse [a]), .lst [a], .lst [a]], D.tup [.str "BadTower", (D.exc C_BadTower fs_BadTower.reverse [b, a]), .lst [a, b], .lst [a, b]], D.tup [.str "BadTower", (D.exc C_BadTower fs_BadTower.reverse [b, a]), .lst [a, b], .lst [a, b]], D.tup [.str "BadRow", (D.exc C_BadRow fs_BadRow.reverse [a]), .lst [a], .lst [a]], D.tup [.str "BadRow", (D.exc C_BadRow fs_BadRow.reverse [a]), .lst [a], .lst [a]], D.tup [.str "BadTable", (D.exc C_BadTable fs_BadTable.reverse [a]), .lst [a], .lst [a]], D.tup [.str "BadTable", (D.exc C_BadTable fs_BadTable.reverse [a]), .lst [a], .lst [a]], D.tup [.str "BadPaper", (D.exc C_BadPaper fs_BadPaper.reverse [a]), .lst [a], .lst [a]], D.tup [.str "BadPaper", (D.exc C_BadPaper fs_BadPaper.reverse [a]), .lst [a], .lst [a]]]) rfl ?_
  simp only [List.set_cons_succ, List.set_cons_zero]
  revert hrows hlen
  generalize ([D.tup [.str "BadNumber", (D.exc C_BadNumber fs_BadNumber.reverse [b, a]), .lst [a, b], .lst [a, b]], D.tup [.str "BadNumber", (D.exc C_BadNumber fs_BadNumber.reverse [b, a]), .lst [a, b], .lst [a, b]], D.tup [.str "BadText", (D.exc C_BadText fs_BadText.reverse [b, a]), .lst [a, b], .lst [a, b]], D.tup [.str "BadText", (D.exc C_BadText fs_BadText.reverse [b, a]), .lst [a, b], .lst [a, b]], D.tup [.str "BadPoly", (D.exc C_BadPoly fs_BadPoly.reverse [a]), .lst [a], .lst [a]], D.tup [.str "BadPoly", (D.exc C_BadPoly fs_BadPoly.reverse [a]), .lst [a], .lst [a]], D.tup [.str "BadTower", (D.exc C_BadTower fs_BadTower.reverse [b, a]), .lst [a, b], .lst [a, b]], D.tup [.str "BadTower", (D.exc C_BadTower fs_BadTower.reverse [b, a]), .lst [a, b], .lst [a, b]], D.tup [.str "BadRow", (D.exc C_BadRow fs_BadRow.reverse [a]), .lst [a], .lst [a]], D.tup [.str "BadRow", (D.exc C_BadRow fs_BadRow.reverse [a]), .lst [a], .lst [a]], D.tup [.str "BadTable", (D.exc C_BadTable fs_BadTable.reverse [a]), .lst [a], .lst [a]], D.tup [.str "BadTable", (D.exc C_BadTable fs_BadTable.reverse [a]), .lst [a], .lst [a]], D.tup [.str "BadPaper", (D.exc C_BadPaper fs_BadPaper.reverse [a]), .lst [a], .lst [a]], D.tup [.str "BadPaper", (D.exc C_BadPaper fs_BadPaper.reverse [a]), .lst [a], .lst [a]]] : List D) = R
  intro hrows hlen
  rw [s_onE]
  simp only [w_bind, w_pure, w_calm, s_lc, g_0, g_s, items_lst]
  refine lcD_const (y0 := .bl true) R [] _ (by rw [sizeLine_eq]; simp; omega) (fun t ht => ?_) ?_
  · obtain ⟨nm, C, ns, fs, d, rfl, hm, hd⟩ := hrows t ht
    refine ⟨[some (.d a), some (.d b), some (.d c), some (.d (.lst R)), some (.d (D.exc C_BadPaper fs_BadPaper.reverse [a])), some (.d (D.exc C_BadPaper fs_BadPaper.reverse [a])), some (.d (.str nm)), some (.d (.exc C ns fs)), some (.d d), some (.d d)], rfl, fun K1 hK => ?_⟩
    simp only [w_bind, w_pure, w_calm, w_need, g_0, g_s]
    exact ⟨rfl, nm, C, ns, fs, d, rfl, hm, hd, hK⟩
  · rw [List.nil_append, show List.replicate R.length (D.bl true) = (List.replicate R.length true).map D.bl from by rw [List.map_replicate], fAll_bools]
    have e : (List.replicate R.length true).all id = true := by simp
    rw [e]
    exact hk


theorem ok__law_last_right  (F : DefF K mg "_law_last_right" s__law_last_right ["a", "b", "c"]) (m_all : mg "all" = none) (h__law_alone : DefG P w K mg base "_law_alone" ["name", "fault", "due", "found"] (2) (w_alone (KINDS C_BadNumber C_BadText C_BadPoly C_BadTower C_BadRow C_BadTable C_BadPaper C_Unlike C_TooMany C_BadName C_NoName C_TakenName C_NothingToUndo C_NothingToRedo))) (v_NothingToRedo : Err0 P w K mg base "NothingToRedo" C_NothingToRedo 1) (v_NothingToUndo : Err0 P w K mg base "NothingToUndo" C_NothingToUndo 1) (v_TakenName : ErrV P w K mg base "TakenName" C_TakenName fs_TakenName 1) (v_NoName : ErrV P w K mg base "NoName" C_NoName fs_NoName 1) (v_BadName : ErrV P w K mg base "BadName" C_BadName fs_BadName 1) (v_TooMany : ErrV P w K mg base "TooMany" C_TooMany fs_TooMany 1) (v_Unlike : ErrV P w K mg base "Unlike" C_Unlike fs_Unlike 1) (att : attB K [(C_BadNumber, fs_BadNumber), (C_BadText, fs_BadText), (C_BadPoly, fs_BadPoly), (C_BadTower, fs_BadTower), (C_BadRow, fs_BadRow), (C_BadTable, fs_BadTable), (C_BadPaper, fs_BadPaper), (C_Unlike, fs_Unlike), (C_TooMany, fs_TooMany), (C_BadName, fs_BadName), (C_NoName, fs_NoName), (C_TakenName, fs_TakenName)] = true) : DefG P w K mg base "_law_last_right" ["a", "b", "c"] (2 + 1) w_right := by
  obtain ⟨f__law_alone, d__law_alone, G__law_alone, n__law_alone, q__law_alone, b__law_alone⟩ := h__law_alone.ex
  obtain ⟨fi_NothingToRedo, fd_NothingToRedo, ps_NothingToRedo, T_NothingToRedo, i_NothingToRedo, t_NothingToRedo, F_NothingToRedo, B_NothingToRedo, g_NothingToRedo⟩ := v_NothingToRedo.ex
  obtain ⟨fi_NothingToUndo, fd_NothingToUndo, ps_NothingToUndo, T_NothingToUndo, i_NothingToUndo, t_NothingToUndo, F_NothingToUndo, B_NothingToUndo, g_NothingToUndo⟩ := v_NothingToUndo.ex
  obtain ⟨fi_TakenName, fd_TakenName, ps_TakenName, T_TakenName, i_TakenName, t_TakenName, F_TakenName, B_TakenName, W_TakenName, l_TakenName, g_TakenName⟩ := v_TakenName.ex
  obtain ⟨fi_NoName, fd_NoName, ps_NoName, T_NoName, i_NoName, t_NoName, F_NoName, B_NoName, W_NoName, l_NoName, g_NoName⟩ := v_NoName.ex
  obtain ⟨fi_BadName, fd_BadName, ps_BadName, T_BadName, i_BadName, t_BadName, F_BadName, B_BadName, W_BadName, l_BadName, g_BadName⟩ := v_BadName.ex
  obtain ⟨fi_TooMany, fd_TooMany, ps_TooMany, T_TooMany, i_TooMany, t_TooMany, F_TooMany, B_TooMany, W_TooMany, l_TooMany, g_TooMany⟩ := v_TooMany.ex
  obtain ⟨fi_Unlike, fd_Unlike, ps_Unlike, T_Unlike, i_Unlike, t_Unlike, F_Unlike, B_Unlike, W_Unlike, l_Unlike, g_Unlike⟩ := v_Unlike.ex
  refine def_ok (k := 2) F sc__law_last_right (fun f cdv A outer s H E hg hr => (DSs.cons (DS.own (k := 3) (fun _ => sc__law_last_right.nd) (fun _ => rfl) (fun _ => (.inl rfl)) DA.nil)
    (DSs.cons (DS.set (k := 4) (fun _ => sc__law_last_right.nd) (fun _ => rfl) (fun _ => (.inl rfl)) (DE.newO (fun _ => T_Unlike) (by simp) (fun _ => i_Unlike) (fun _ => t_Unlike) (fun _ => F_Unlike) (fun _ => hr.mono (by omega)) (fun _ => B_Unlike) (fun _ => by rfl) (fun _ => g_Unlike) (DA.cons (DE.var fun _ => pv 0) DA.nil)))
    (DSs.cons (DS.set (k := 5) (fun _ => sc__law_last_right.nd) (fun _ => rfl) (fun _ => (.inl rfl)) (DE.newK (fun _ => T_Unlike) (by simp) (fun _ => i_Unlike) (fun _ => t_Unlike) (fun _ => F_Unlike) (fun _ => hr.mono (by omega)) (fun _ => W_Unlike) l_Unlike (fun _ => by rfl) (fun _ => g_Unlike) (DK.cons (DE.var fun _ => pv 0) DK.nil)))
    (DSs.cons (DS.append (k := 3) (fun _ => rfl) (fun _ => pv 3) (DE.tup (DA.cons DE.str (DA.cons (DE.var fun _ => pv 4) (DA.cons (DE.lst (DA.cons (DE.var fun _ => pv 0) DA.nil)) (DA.cons (DE.lst (DA.cons (DE.att (fun _ => rfl) (DE.var fun _ => pv 4)) DA.nil)) DA.nil))))) (fun _ _ ha => pe_bm PySem.F.plainAttrs_list PySem.F.slot_list_append PySem.F.type_list_append mt_append (pv 3) ha))
    (DSs.cons (DS.append (k := 3) (fun _ => rfl) (fun _ => pv 3) (DE.tup (DA.cons DE.str (DA.cons (DE.var fun _ => pv 5) (DA.cons (DE.lst (DA.cons (DE.var fun _ => pv 0) DA.nil)) (DA.cons (DE.lst (DA.cons (DE.att (fun _ => rfl) (DE.var fun _ => pv 5)) DA.nil)) DA.nil))))) (fun _ _ ha => pe_bm PySem.F.plainAttrs_list PySem.F.slot_list_append PySem.F.type_list_append mt_append (pv 3) ha))
    (DSs.cons (DS.set (k := 4) (fun _ => sc__law_last_right.nd) (fun _ => rfl) (fun _ => (.inl rfl)) (DE.newO (fun _ => T_TooMany) (by simp) (fun _ => i_TooMany) (fun _ => t_TooMany) (fun _ => F_TooMany) (fun _ => hr.mono (by omega)) (fun _ => B_TooMany) (fun _ => by rfl) (fun _ => g_TooMany) (DA.cons (DE.var fun _ => pv 0) (DA.cons (DE.var fun _ => pv 1) (DA.cons (DE.var fun _ => pv 2) DA.nil)))))
    (DSs.cons (DS.set (k := 5) (fun _ => sc__law_last_right.nd) (fun _ => rfl) (fun _ => (.inl rfl)) (DE.newK (fun _ => T_TooMany) (by simp) (fun _ => i_TooMany) (fun _ => t_TooMany) (fun _ => F_TooMany) (fun _ => hr.mono (by omega)) (fun _ => W_TooMany) l_TooMany (fun _ => by rfl) (fun _ => g_TooMany) (DK.cons (DE.var fun _ => pv 2) (DK.cons (DE.var fun _ => pv 1) (DK.cons (DE.var fun _ => pv 0) DK.nil)))))
    (DSs.cons (DS.append (k := 3) (fun _ => rfl) (fun _ => pv 3) (DE.tup (DA.cons DE.str (DA.cons (DE.var fun _ => pv 4) (DA.cons (DE.lst (DA.cons (DE.var fun _ => pv 0) (DA.cons (DE.var fun _ => pv 1) (DA.cons (DE.var fun _ => pv 2) DA.nil)))) (DA.cons (DE.lst (DA.cons (DE.att (fun _ => rfl) (DE.var fun _ => pv 4)) (DA.cons (DE.att (fun _ => rfl) (DE.var fun _ => pv 4)) (DA.cons (DE.att (fun _ => rfl) (DE.var fun _ => pv 4)) DA.nil)))) DA.nil))))) (fun _ _ ha => pe_bm PySem.F.plainAttrs_list PySem.F.slot_list_append PySem.F.type_list_append mt_append (pv 3) ha))
    (DSs.cons (DS.append (k := 3) (fun _ => rfl) (fun _ => pv 3) (DE.tup (DA.cons DE.str (DA.cons (DE.var fun _ => pv 5) (DA.cons (DE.lst (DA.cons (DE.var fun _ => pv 0) (DA.cons (DE.var fun _ => pv 1) (DA.cons (DE.var fun _ => pv 2) DA.nil)))) (DA.cons (DE.lst (DA.cons (DE.att (fun _ => rfl) (DE.var fun _ => pv 5)) (DA.cons (DE.att (fun _ => rfl) (DE.var fun _ => pv 5)) (DA.cons (DE.att (fun _ => rfl) (DE.var fun _ => pv 5)) DA.nil)))) DA.nil))))) (fun _ _ ha => pe_bm PySem.F.plainAttrs_list PySem.F.slot_list_append PySem.F.type_list_append mt_append (pv 3) ha))
    (DSs.cons (DS.set (k := 4) (fun _ => sc__law_last_right.nd) (fun _ => rfl) (fun _ => (.inl rfl)) (DE.newO (fun _ => T_BadName) (by simp) (fun _ => i_BadName) (fun _ => t_BadName) (fun _ => F_BadName) (fun _ => hr.mono (by omega)) (fun _ => B_BadName) (fun _ => by rfl) (fun _ => g_BadName) (DA.cons (DE.var fun _ => pv 0) DA.nil)))
    (DSs.cons (DS.set (k := 5) (fun _ => sc__law_last_right.nd) (fun _ => rfl) (fun _ => (.inl rfl)) (DE.newK (fun _ => T_BadName) (by simp) (fun _ => i_BadName) (fun _ => t_BadName) (fun _ => F_BadName) (fun _ => hr.mono (by omega)) (fun _ => W_BadName) l_BadName (fun _ => by rfl) (fun _ => g_BadName) (DK.cons (DE.var fun _ => pv 0) DK.nil)))
    (DSs.cons (DS.append (k := 3) (fun _ => rfl) (fun _ => pv 3) (DE.tup (DA.cons DE.str (DA.cons (DE.var fun _ => pv 4) (DA.cons (DE.lst (DA.cons (DE.var fun _ => pv 0) DA.nil)) (DA.cons (DE.lst (DA.cons (DE.att (fun _ => rfl) (DE.var fun _ => pv 4)) DA.nil)) DA.nil))))) (fun _ _ ha => pe_bm PySem.F.plainAttrs_list PySem.F.slot_list_append PySem.F.type_list_append mt_append (pv 3) ha))
    (DSs.cons (DS.append (k := 3) (fun _ => rfl) (fun _ => pv 3) (DE.tup (DA.cons DE.str (DA.cons (DE.var fun _ => pv 5) (DA.cons (DE.lst (DA.cons (DE.var fun _ => pv 0) DA.nil)) (DA.cons (DE.lst (DA.cons (DE.att (fun _ => rfl) (DE.var fun _ => pv 5)) DA.nil)) DA.nil))))) (fun _ _ ha => pe_bm PySem.F.plainAttrs_list PySem.F.slot_list_append PySem.F.type_list_append mt_append (pv 3) ha))
    (DSs.cons (DS.set (k := 4) (fun _ => sc__law_last_right.nd) (fun _ => rfl) (fun _ => (.inl rfl)) (DE.newO (fun _ => T_NoName) (by simp) (fun _ => i_NoName) (fun _ => t_NoName) (fun _ => F_NoName) (fun _ => hr.mono (by omega)) (fun _ => B_NoName) (fun _ => by rfl) (fun _ => g_NoName) (DA.cons (DE.var fun _ => pv 0) DA.nil)))
    (DSs.cons (DS.set (k := 5) (fun _ => sc__law_last_right.nd) (fun _ => rfl) (fun _ => (.inl rfl)) (DE.newK (fun _ => T_NoName) (by simp) (fun _ => i_NoName) (fun _ => t_NoName) (fun _ => F_NoName) (fun _ => hr.mono (by omega)) (fun _ => W_NoName) l_NoName (fun _ => by rfl) (fun _ => g_NoName) (DK.cons (DE.var fun _ => pv 0) DK.nil)))
    (DSs.cons (DS.append (k := 3) (fun _ => rfl) (fun _ => pv 3) (DE.tup (DA.cons DE.str (DA.cons (DE.var fun _ => pv 4) (DA.cons (DE.lst (DA.cons (DE.var fun _ => pv 0) DA.nil)) (DA.cons (DE.lst (DA.cons (DE.att (fun _ => rfl) (DE.var fun _ => pv 4)) DA.nil)) DA.nil))))) (fun _ _ ha => pe_bm PySem.F.plainAttrs_list PySem.F.slot_list_append PySem.F.type_list_append mt_append (pv 3) ha))
    (DSs.cons (DS.append (k := 3) (fun _ => rfl) (fun _ => pv 3) (DE.tup (DA.cons DE.str (DA.cons (DE.var fun _ => pv 5) (DA.cons (DE.lst (DA.cons (DE.var fun _ => pv 0) DA.nil)) (DA.cons (DE.lst (DA.cons (DE.att (fun _ => rfl) (DE.var fun _ => pv 5)) DA.nil)) DA.nil))))) (fun _ _ ha => pe_bm PySem.F.plainAttrs_list PySem.F.slot_list_append PySem.F.type_list_append mt_append (pv 3) ha))
    (DSs.cons (DS.set (k := 4) (fun _ => sc__law_last_right.nd) (fun _ => rfl) (fun _ => (.inl rfl)) (DE.newO (fun _ => T_TakenName) (by simp) (fun _ => i_TakenName) (fun _ => t_TakenName) (fun _ => F_TakenName) (fun _ => hr.mono (by omega)) (fun _ => B_TakenName) (fun _ => by rfl) (fun _ => g_TakenName) (DA.cons (DE.var fun _ => pv 0) DA.nil)))
    (DSs.cons (DS.set (k := 5) (fun _ => sc__law_last_right.nd) (fun _ => rfl) (fun _ => (.inl rfl)) (DE.newK (fun _ => T_TakenName) (by simp) (fun _ => i_TakenName) (fun _ => t_TakenName) (fun _ => F_TakenName) (fun _ => hr.mono (by omega)) (fun _ => W_TakenName) l_TakenName (fun _ => by rfl) (fun _ => g_TakenName) (DK.cons (DE.var fun _ => pv 0) DK.nil)))
    (DSs.cons (DS.append (k := 3) (fun _ => rfl) (fun _ => pv 3) (DE.tup (DA.cons DE.str (DA.cons (DE.var fun _ => pv 4) (DA.cons (DE.lst (DA.cons (DE.var fun _ => pv 0) DA.nil)) (DA.cons (DE.lst (DA.cons (DE.att (fun _ => rfl) (DE.var fun _ => pv 4)) DA.nil)) DA.nil))))) (fun _ _ ha => pe_bm PySem.F.plainAttrs_list PySem.F.slot_list_append PySem.F.type_list_append mt_append (pv 3) ha))
    (DSs.cons (DS.append (k := 3) (fun _ => rfl) (fun _ => pv 3) (DE.tup (DA.cons DE.str (DA.cons (DE.var fun _ => pv 5) (DA.cons (DE.lst (DA.cons (DE.var fun _ => pv 0) DA.nil)) (DA.cons (DE.lst (DA.cons (DE.att (fun _ => rfl) (DE.var fun _ => pv 5)) DA.nil)) DA.nil))))) (fun _ _ ha => pe_bm PySem.F.plainAttrs_list PySem.F.slot_list_append PySem.F.type_list_append mt_append (pv 3) ha))
    (DSs.cons (DS.set (k := 4) (fun _ => sc__law_last_right.nd) (fun _ => rfl) (fun _ => (.inl rfl)) (DE.new0 (fun _ => T_NothingToUndo) (fun _ => i_NothingToUndo) (fun _ => t_NothingToUndo) (fun _ => F_NothingToUndo) (fun _ => hr.mono (by omega)) (fun _ => B_NothingToUndo) (fun _ => by rfl) (fun _ => g_NothingToUndo)))
    (DSs.cons (DS.set (k := 5) (fun _ => sc__law_last_right.nd) (fun _ => rfl) (fun _ => (.inl rfl)) (DE.new0 (fun _ => T_NothingToUndo) (fun _ => i_NothingToUndo) (fun _ => t_NothingToUndo) (fun _ => F_NothingToUndo) (fun _ => hr.mono (by omega)) (fun _ => B_NothingToUndo) (fun _ => by rfl) (fun _ => g_NothingToUndo)))
    (DSs.cons (DS.append (k := 3) (fun _ => rfl) (fun _ => pv 3) (DE.tup (DA.cons DE.str (DA.cons (DE.var fun _ => pv 4) (DA.cons (DE.cst (.lst []) (by rfl)) (DA.cons (DE.cst (.lst []) (by rfl)) DA.nil))))) (fun _ _ ha => pe_bm PySem.F.plainAttrs_list PySem.F.slot_list_append PySem.F.type_list_append mt_append (pv 3) ha))
    (DSs.cons (DS.append (k := 3) (fun _ => rfl) (fun _ => pv 3) (DE.tup (DA.cons DE.str (DA.cons (DE.var fun _ => pv 5) (DA.cons (DE.cst (.lst []) (by rfl)) (DA.cons (DE.cst (.lst []) (by rfl)) DA.nil))))) (fun _ _ ha => pe_bm PySem.F.plainAttrs_list PySem.F.slot_list_append PySem.F.type_list_append mt_append (pv 3) ha))
    (DSs.cons (DS.set (k := 4) (fun _ => sc__law_last_right.nd) (fun _ => rfl) (fun _ => (.inl rfl)) (DE.new0 (fun _ => T_NothingToRedo) (fun _ => i_NothingToRedo) (fun _ => t_NothingToRedo) (fun _ => F_NothingToRedo) (fun _ => hr.mono (by omega)) (fun _ => B_NothingToRedo) (fun _ => by rfl) (fun _ => g_NothingToRedo)))
    (DSs.cons (DS.set (k := 5) (fun _ => sc__law_last_right.nd) (fun _ => rfl) (fun _ => (.inl rfl)) (DE.new0 (fun _ => T_NothingToRedo) (fun _ => i_NothingToRedo) (fun _ => t_NothingToRedo) (fun _ => F_NothingToRedo) (fun _ => hr.mono (by omega)) (fun _ => B_NothingToRedo) (fun _ => by rfl) (fun _ => g_NothingToRedo)))
    (DSs.cons (DS.append (k := 3) (fun _ => rfl) (fun _ => pv 3) (DE.tup (DA.cons DE.str (DA.cons (DE.var fun _ => pv 4) (DA.cons (DE.cst (.lst []) (by rfl)) (DA.cons (DE.cst (.lst []) (by rfl)) DA.nil))))) (fun _ _ ha => pe_bm PySem.F.plainAttrs_list PySem.F.slot_list_append PySem.F.type_list_append mt_append (pv 3) ha))
    (DSs.cons (DS.append (k := 3) (fun _ => rfl) (fun _ => pv 3) (DE.tup (DA.cons DE.str (DA.cons (DE.var fun _ => pv 5) (DA.cons (DE.cst (.lst []) (by rfl)) (DA.cons (DE.cst (.lst []) (by rfl)) DA.nil))))) (fun _ _ ha => pe_bm PySem.F.plainAttrs_list PySem.F.slot_list_append PySem.F.type_list_append mt_append (pv 3) ha))
    (DSs.freeze 3 (DSs.one (DS.ret (DE.opL (fun _ _ ha => pe_callB (cr_all rfl) (by rfl) m_all (by decide +kernel) ha) sem_all (DA.cons (DE.lc (own := [("name", 6), ("fault", 7), ("due", 8), ("found", 9)]) (fun _ => rfl) (fun _ => sc__law_last_right.nd) (DI.seq (fun _ => rfl) (DE.var fun _ => pv 3)) (fun _ => blkOk_by (N := ["a", "b", "c", "rows", "one", "two", "name", "fault", "due", "found"]) (sc := defScope s__law_last_right) (by decide +kernel)) (DG.tup (m := 4) (fun _ => rfl) (fun _ => rfl) (DGs.cons (DG.name (k := 6) (fun _ => pg_name sc__law_last_right.nd rfl (.inl rfl))) (DGs.cons (DG.name (k := 7) (fun _ => pg_name sc__law_last_right.nd rfl (.inl rfl))) (DGs.cons (DG.name (k := 8) (fun _ => pg_name sc__law_last_right.nd rfl (.inl rfl))) (DGs.cons (DG.name (k := 9) (fun _ => pg_name sc__law_last_right.nd rfl (.inl rfl))) DGs.nil))))) DTs.nil (DE.call (fun _ => G__law_alone) (fun _ => hg) (fun _ => hr.mono (by omega)) (fun _ => L2.takes0) (fun _ => by rfl) (fun _ => n__law_alone) (fun _ => q__law_alone) (fun _ => b__law_alone) (DA.cons (DE.var fun _ => pv 6) (DA.cons (DE.var fun _ => pv 7) (DA.cons (DE.var fun _ => pv 8) (DA.cons (DE.var fun _ => pv 9) DA.nil)))))) DA.nil))))))))))))))))))))))))))))))))))) fun ds Kd Kx n hl h => ?_
  obtain ⟨a, b, c, rfl, ha, hb, hc, hk⟩ := h
  rw [s_body, s_seq]
  refine own_intro ?_
  refine ⟨fits_small (by simp), ?_⟩
  simp only [List.set_cons_succ, List.set_cons_zero, List.map_cons, List.map_nil, List.length_cons, List.length_nil, List.cons_append, List.nil_append, List.replicate]
  obtain ⟨m0, hm0⟩ : ∃ m0, m0 = n := ⟨_, rfl⟩
  rw [← hm0] at hk ⊢
  refine seq_split (fun ρ' n' => ρ' = [some (.d a), some (.d b), some (.d c), some (.ml []), some (.d (D.exc C_Unlike fs_Unlike.reverse [a])), none, none, none, none, none] ∧ n' = m0) ?R1 (fun nx hnx => ?S1)
  case S1 =>
    rw [s_asg]
    simp only [s_onE, w_bind, w_pure, w_need, w_calm, g_0, g_s]
    exact ⟨rfl, hnx _ _ ⟨rfl, rfl⟩⟩
  intro ρ1 n1 h1
  obtain ⟨e1, e2⟩ := h1
  rw [e1, e2]
  clear e1 e2 ρ1 n1
  refine seq_split (fun ρ' n' => ρ' = [some (.d a), some (.d b), some (.d c), some (.ml []), some (.d (D.exc C_Unlike fs_Unlike.reverse [a])), some (.d (D.exc C_Unlike fs_Unlike.reverse [a])), none, none, none, none] ∧ n' = m0) ?R2 (fun nx hnx => ?S2)
  case S2 =>
    rw [s_asg]
    simp only [s_onE, w_bind, w_pure, w_need, w_calm, g_0, g_s]
    exact ⟨rfl, hnx _ _ ⟨rfl, rfl⟩⟩
  intro ρ1 n1 h1
  obtain ⟨e1, e2⟩ := h1
  rw [e1, e2]
  clear e1 e2 ρ1 n1
  refine seq_split (fun ρ' n' => ρ' = [some (.d a), some (.d b), some (.d c), some (.ml [D.tup [.str "Unlike", (D.exc C_Unlike fs_Unlike.reverse [a]), .lst [a], .lst [a]]]), some (.d (D.exc C_Unlike fs_Unlike.reverse [a])), some (.d (D.exc C_Unlike fs_Unlike.reverse [a])), none, none, none, none] ∧ n' = m0) ?R3 (fun nx hnx => ?S3)
  case S3 =>
    refine app_intro (ds := []) rfl ?_
    simp only [s_onE, w_bind, w_pure, w_need, w_calm, g_0, g_s]
    exact ⟨fits_small (by simp), _, (attB_ok att (C := C_Unlike) (fs := fs_Unlike) (by simp) (f := "what") (by simp)).1, (attB_ok att (C := C_Unlike) (fs := fs_Unlike) (by simp) (f := "what") (by simp)).2, rfl, fits_small (by simp), fits_small (by simp), by rw [sizeLine_eq]; simp, hnx _ _ ⟨rfl, rfl⟩⟩
  intro ρ1 n1 h1
  obtain ⟨e1, e2⟩ := h1
  rw [e1, e2]
  clear e1 e2 ρ1 n1
  refine seq_split (fun ρ' n' => ρ' = [some (.d a), some (.d b), some (.d c), some (.ml [D.tup [.str "Unlike", (D.exc C_Unlike fs_Unlike.reverse [a]), .lst [a], .lst [a]], D.tup [.str "Unlike", (D.exc C_Unlike fs_Unlike.reverse [a]), .lst [a], .lst [a]]]), some (.d (D.exc C_Unlike fs_Unlike.reverse [a])), some (.d (D.exc C_Unlike fs_Unlike.reverse [a])), none, none, none, none] ∧ n' = m0) ?R4 (fun nx hnx => ?S4)
  case S4 =>
    refine app_intro (ds := [D.tup [.str "Unlike", (D.exc C_Unlike fs_Unlike.reverse [a]), .lst [a], .lst [a]]]) rfl ?_
    simp only [s_onE, w_bind, w_pure, w_need, w_calm, g_0, g_s]
    exact ⟨fits_small (by simp), _, (attB_ok att (C := C_Unlike) (fs := fs_Unlike) (by simp) (f := "what") (by simp)).1, (attB_ok att (C := C_Unlike) (fs := fs_Unlike) (by simp) (f := "what") (by simp)).2, rfl, fits_small (by simp), fits_small (by simp), by rw [sizeLine_eq]; simp, hnx _ _ ⟨rfl, rfl⟩⟩
  intro ρ1 n1 h1
  obtain ⟨e1, e2⟩ := h1
  rw [e1, e2]
  clear e1 e2 ρ1 n1
  refine seq_split (fun ρ' n' => ρ' = [some (.d a), some (.d b), some (.d c), some (.ml [D.tup [.str "Unlike", (D.exc C_Unlike fs_Unlike.reverse [a]), .lst [a], .lst [a]], D.tup [.str "Unlike", (D.exc C_Unlike fs_Unlike.reverse [a]), .lst [a], .lst [a]]]), some (.d (D.exc C_TooMany fs_TooMany.reverse [c, b, a])), some (.d (D.exc C_Unlike fs_Unlike.reverse [a])), none, none, none, none] ∧ n' = m0) ?R5 (fun nx hnx => ?S5)
  case S5 =>
    rw [s_asg]
    simp only [s_onE, w_bind, w_pure, w_need, w_calm, g_0, g_s]
    exact ⟨rfl, hnx _ _ ⟨rfl, rfl⟩⟩
  intro ρ1 n1 h1
  obtain ⟨e1, e2⟩ := h1
  rw [e1, e2]
  clear e1 e2 ρ1 n1
  refine seq_split (fun ρ' n' => ρ' = [some (.d a), some (.d b), some (.d c), some (.ml [D.tup [.str "Unlike", (D.exc C_Unlike fs_Unlike.reverse [a]), .lst [a], .lst [a]], D.tup [.str "Unlike", (D.exc C_Unlike fs_Unlike.reverse [a]), .lst [a], .lst [a]]]), some (.d (D.exc C_TooMany fs_TooMany.reverse [c, b, a])), some (.d (D.exc C_TooMany fs_TooMany.reverse [c, b, a])), none, none, none, none] ∧ n' = m0) ?R6 (fun nx hnx => ?S6)
  case S6 =>
    rw [s_asg]
    simp only [s_onE, w_bind, w_pure, w_need, w_calm, g_0, g_s]
    exact ⟨rfl, hnx _ _ ⟨rfl, rfl⟩⟩
  intro ρ1 n1 h1
  obtain ⟨e1, e2⟩ := h1
  rw [e1, e2]
  clear e1 e2 ρ1 n1
  refine seq_split (fun ρ' n' => ρ' = [some (.d a), some (.d b), some (.d c), some (.ml [D.tup [.str "Unlike", (D.exc C_Unlike fs_Unlike.reverse [a]), .lst [a], .lst [a]], D.tup [.str "Unlike", (D.exc C_Unlike fs_Unlike.reverse [a]), .lst [a], .lst [a]], D.tup [.str "TooMany", (D.exc C_TooMany fs_TooMany.reverse [c, b, a]), .lst [a, b, c], .lst [a, b, c]]]), some (.d (D.exc C_TooMany fs_TooMany.reverse [c, b, a])), some (.d (D.exc C_TooMany fs_TooMany.reverse [c, b, a])), none, none, none, none] ∧ n' = m0) ?R7 (fun nx hnx => ?S7)
  case S7 =>
    refine app_intro (ds := [D.tup [.str "Unlike", (D.exc C_Unlike fs_Unlike.reverse [a]), .lst [a], .lst [a]], D.tup [.str "Unlike", (D.exc C_Unlike fs_Unlike.reverse [a]), .lst [a], .lst [a]]]) rfl ?_
    simp only [s_onE, w_bind, w_pure, w_need, w_calm, g_0, g_s]
    exact ⟨fits_small (by simp), _, (attB_ok att (C := C_TooMany) (fs := fs_TooMany) (by simp) (f := "what") (by simp)).1, (attB_ok att (C := C_TooMany) (fs := fs_TooMany) (by simp) (f := "what") (by simp)).2, rfl, _, (attB_ok att (C := C_TooMany) (fs := fs_TooMany) (by simp) (f := "many") (by simp)).1, (attB_ok att (C := C_TooMany) (fs := fs_TooMany) (by simp) (f := "many") (by simp)).2, rfl, _, (attB_ok att (C := C_TooMany) (fs := fs_TooMany) (by simp) (f := "limit") (by simp)).1, (attB_ok att (C := C_TooMany) (fs := fs_TooMany) (by simp) (f := "limit") (by simp)).2, rfl, fits_small (by simp), fits_small (by simp), by rw [sizeLine_eq]; simp, hnx _ _ ⟨rfl, rfl⟩⟩
  intro ρ1 n1 h1
  obtain ⟨e1, e2⟩ := h1
  rw [e1, e2]
  clear e1 e2 ρ1 n1
  refine seq_split (fun ρ' n' => ρ' = [some (.d a), some (.d b), some (.d c), some (.ml [D.tup [.str "Unlike", (D.exc C_Unlike fs_Unlike.reverse [a]), .lst [a], .lst [a]], D.tup [.str "Unlike", (D.exc C_Unlike fs_Unlike.reverse [a]), .lst [a], .lst [a]], D.tup [.str "TooMany", (D.exc C_TooMany fs_TooMany.reverse [c, b, a]), .lst [a, b, c], .lst [a, b, c]], D.tup [.str "TooMany", (D.exc C_TooMany fs_TooMany.reverse [c, b, a]), .lst [a, b, c], .lst [a, b, c]]]), some (.d (D.exc C_TooMany fs_TooMany.reverse [c, b, a])), some (.d (D.exc C_TooMany fs_TooMany.reverse [c, b, a])), none, none, none, none] ∧ n' = m0) ?R8 (fun nx hnx => ?S8)
  case S8 =>
    refine app_intro (ds := [D.tup [.str "Unlike", (D.exc C_Unlike fs_Unlike.reverse [a]), .lst [a], .lst [a]], D.tup [.str "Unlike", (D.exc C_Unlike fs_Unlike.reverse [a]), .lst [a], .lst [a]], D.tup [.str "TooMany", (D.exc C_TooMany fs_TooMany.reverse [c, b, a]), .lst [a, b, c], .lst [a, b, c]]]) rfl ?_
    simp only [s_onE, w_bind, w_pure, w_need, w_calm, g_0, g_s]
    exact ⟨fits_small (by simp), _, (attB_ok att (C := C_TooMany) (fs := fs_TooMany) (by simp) (f := "what") (by simp)).1, (attB_ok att (C := C_TooMany) (fs := fs_TooMany) (by simp) (f := "what") (by simp)).2, rfl, _, (attB_ok att (C := C_TooMany) (fs := fs_TooMany) (by simp) (f := "many") (by simp)).1, (attB_ok att (C := C_TooMany) (fs := fs_TooMany) (by simp) (f := "many") (by simp)).2, rfl, _, (attB_ok att (C := C_TooMany) (fs := fs_TooMany) (by simp) (f := "limit") (by simp)).1, (attB_ok att (C := C_TooMany) (fs := fs_TooMany) (by simp) (f := "limit") (by simp)).2, rfl, fits_small (by simp), fits_small (by simp), by rw [sizeLine_eq]; simp, hnx _ _ ⟨rfl, rfl⟩⟩
  intro ρ1 n1 h1
  obtain ⟨e1, e2⟩ := h1
  rw [e1, e2]
  clear e1 e2 ρ1 n1
  refine seq_split (fun ρ' n' => ρ' = [some (.d a), some (.d b), some (.d c), some (.ml [D.tup [.str "Unlike", (D.exc C_Unlike fs_Unlike.reverse [a]), .lst [a], .lst [a]], D.tup [.str "Unlike", (D.exc C_Unlike fs_Unlike.reverse [a]), .lst [a], .lst [a]], D.tup [.str "TooMany", (D.exc C_TooMany fs_TooMany.reverse [c, b, a]), .lst [a, b, c], .lst [a, b, c]], D.tup [.str "TooMany", (D.exc C_TooMany fs_TooMany.reverse [c, b, a]), .lst [a, b, c], .lst [a, b, c]]]), some (.d (D.exc C_BadName fs_BadName.reverse [a])), some (.d (D.exc C_TooMany fs_TooMany.reverse [c, b, a])), none, none, none, none] ∧ n' = m0) ?R9 (fun nx hnx => ?S9)
  case S9 =>
    rw [s_asg]
    simp only [s_onE, w_bind, w_pure, w_need, w_calm, g_0, g_s]
    exact ⟨rfl, hnx _ _ ⟨rfl, rfl⟩⟩
  intro ρ1 n1 h1
  obtain ⟨e1, e2⟩ := h1
  rw [e1, e2]
  clear e1 e2 ρ1 n1
  refine seq_split (fun ρ' n' => ρ' = [some (.d a), some (.d b), some (.d c), some (.ml [D.tup [.str "Unlike", (D.exc C_Unlike fs_Unlike.reverse [a]), .lst [a], .lst [a]], D.tup [.str "Unlike", (D.exc C_Unlike fs_Unlike.reverse [a]), .lst [a], .lst [a]], D.tup [.str "TooMany", (D.exc C_TooMany fs_TooMany.reverse [c, b, a]), .lst [a, b, c], .lst [a, b, c]], D.tup [.str "TooMany", (D.exc C_TooMany fs_TooMany.reverse [c, b, a]), .lst [a, b, c], .lst [a, b, c]]]), some (.d (D.exc C_BadName fs_BadName.reverse [a])), some (.d (D.exc C_BadName fs_BadName.reverse [a])), none, none, none, none] ∧ n' = m0) ?R10 (fun nx hnx => ?S10)
  case S10 =>
    rw [s_asg]
    simp only [s_onE, w_bind, w_pure, w_need, w_calm, g_0, g_s]
    exact ⟨rfl, hnx _ _ ⟨rfl, rfl⟩⟩
  intro ρ1 n1 h1
  obtain ⟨e1, e2⟩ := h1
  rw [e1, e2]
  clear e1 e2 ρ1 n1
  refine seq_split (fun ρ' n' => ρ' = [some (.d a), some (.d b), some (.d c), some (.ml [D.tup [.str "Unlike", (D.exc C_Unlike fs_Unlike.reverse [a]), .lst [a], .lst [a]], D.tup [.str "Unlike", (D.exc C_Unlike fs_Unlike.reverse [a]), .lst [a], .lst [a]], D.tup [.str "TooMany", (D.exc C_TooMany fs_TooMany.reverse [c, b, a]), .lst [a, b, c], .lst [a, b, c]], D.tup [.str "TooMany", (D.exc C_TooMany fs_TooMany.reverse [c, b, a]), .lst [a, b, c], .lst [a, b, c]], D.tup [.str "BadName", (D.exc C_BadName fs_BadName.reverse [a]), .lst [a], .lst [a]]]), some (.d (D.exc C_BadName fs_BadName.reverse [a])), some (.d (D.exc C_BadName fs_BadName.reverse [a])), none, none, none, none] ∧ n' = m0) ?R11 (fun nx hnx => ?S11)
  case S11 =>
    refine app_intro (ds := [D.tup [.str "Unlike", (D.exc C_Unlike fs_Unlike.reverse [a]), .lst [a], .lst [a]], D.tup [.str "Unlike", (D.exc C_Unlike fs_Unlike.reverse [a]), .lst [a], .lst [a]], D.tup [.str "TooMany", (D.exc C_TooMany fs_TooMany.reverse [c, b, a]), .lst [a, b, c], .lst [a, b, c]], D.tup [.str "TooMany", (D.exc C_TooMany fs_TooMany.reverse [c, b, a]), .lst [a, b, c], .lst [a, b, c]]]) rfl ?_
    simp only [s_onE, w_bind, w_pure, w_need, w_calm, g_0, g_s]
    exact ⟨fits_small (by simp), _, (attB_ok att (C := C_BadName) (fs := fs_BadName) (by simp) (f := "name") (by simp)).1, (attB_ok att (C := C_BadName) (fs := fs_BadName) (by simp) (f := "name") (by simp)).2, rfl, fits_small (by simp), fits_small (by simp), by rw [sizeLine_eq]; simp, hnx _ _ ⟨rfl, rfl⟩⟩
  intro ρ1 n1 h1
  obtain ⟨e1, e2⟩ := h1
  rw [e1, e2]
  clear e1 e2 ρ1 n1
  refine seq_split (fun ρ' n' => ρ' = [some (.d a), some (.d b), some (.d c), some (.ml [D.tup [.str "Unlike", (D.exc C_Unlike fs_Unlike.reverse [a]), .lst [a], .lst [a]], D.tup [.str "Unlike", (D.exc C_Unlike fs_Unlike.reverse [a]), .lst [a], .lst [a]], D.tup [.str "TooMany", (D.exc C_TooMany fs_TooMany.reverse [c, b, a]), .lst [a, b, c], .lst [a, b, c]], D.tup [.str "TooMany", (D.exc C_TooMany fs_TooMany.reverse [c, b, a]), .lst [a, b, c], .lst [a, b, c]], D.tup [.str "BadName", (D.exc C_BadName fs_BadName.reverse [a]), .lst [a], .lst [a]], D.tup [.str "BadName", (D.exc C_BadName fs_BadName.reverse [a]), .lst [a], .lst [a]]]), some (.d (D.exc C_BadName fs_BadName.reverse [a])), some (.d (D.exc C_BadName fs_BadName.reverse [a])), none, none, none, none] ∧ n' = m0) ?R12 (fun nx hnx => ?S12)
  case S12 =>
    refine app_intro (ds := [D.tup [.str "Unlike", (D.exc C_Unlike fs_Unlike.reverse [a]), .lst [a], .lst [a]], D.tup [.str "Unlike", (D.exc C_Unlike fs_Unlike.reverse [a]), .lst [a], .lst [a]], D.tup [.str "TooMany", (D.exc C_TooMany fs_TooMany.reverse [c, b, a]), .lst [a, b, c], .lst [a, b, c]], D.tup [.str "TooMany", (D.exc C_TooMany fs_TooMany.reverse [c, b, a]), .lst [a, b, c], .lst [a, b, c]], D.tup [.str "BadName", (D.exc C_BadName fs_BadName.reverse [a]), .lst [a], .lst [a]]]) rfl ?_
    simp only [s_onE, w_bind, w_pure, w_need, w_calm, g_0, g_s]
    exact ⟨fits_small (by simp), _, (attB_ok att (C := C_BadName) (fs := fs_BadName) (by simp) (f := "name") (by simp)).1, (attB_ok att (C := C_BadName) (fs := fs_BadName) (by simp) (f := "name") (by simp)).2, rfl, fits_small (by simp), fits_small (by simp), by rw [sizeLine_eq]; simp, hnx _ _ ⟨rfl, rfl⟩⟩
  intro ρ1 n1 h1
  obtain ⟨e1, e2⟩ := h1
  rw [e1, e2]
  clear e1 e2 ρ1 n1
  refine seq_split (fun ρ' n' => ρ' = [some (.d a), some (.d b), some (.d c), some (.ml [D.tup [.str "Unlike", (D.exc C_Unlike fs_Unlike.reverse [a]), .lst [a], .lst [a]], D.tup [.str "Unlike", (D.exc C_Unlike fs_Unlike.reverse [a]), .lst [a], .lst [a]], D.tup [.str "TooMany", (D.exc C_TooMany fs_TooMany.reverse [c, b, a]), .lst [a, b, c], .lst [a, b, c]], D.tup [.str "TooMany", (D.exc C_TooMany fs_TooMany.reverse [c, b, a]), .lst [a, b, c], .lst [a, b, c]], D.tup [.str "BadName", (D.exc C_BadName fs_BadName.reverse [a]), .lst [a], .lst [a]], D.tup [.str "BadName", (D.exc C_BadName fs_BadName.reverse [a]), .lst [a], .lst [a]]]), some (.d (D.exc C_NoName fs_NoName.reverse [a])), some (.d (D.exc C_BadName fs_BadName.reverse [a])), none, none, none, none] ∧ n' = m0) ?R13 (fun nx hnx => ?S13)
  case S13 =>
    rw [s_asg]
    simp only [s_onE, w_bind, w_pure, w_need, w_calm, g_0, g_s]
    exact ⟨rfl, hnx _ _ ⟨rfl, rfl⟩⟩
  intro ρ1 n1 h1
  obtain ⟨e1, e2⟩ := h1
  rw [e1, e2]
  clear e1 e2 ρ1 n1
  refine seq_split (fun ρ' n' => ρ' = [some (.d a), some (.d b), some (.d c), some (.ml [D.tup [.str "Unlike", (D.exc C_Unlike fs_Unlike.reverse [a]), .lst [a], .lst [a]], D.tup [.str "Unlike", (D.exc C_Unlike fs_Unlike.reverse [a]), .lst [a], .lst [a]], D.tup [.str "TooMany", (D.exc C_TooMany fs_TooMany.reverse [c, b, a]), .lst [a, b, c], .lst [a, b, c]], D.tup [.str "TooMany", (D.exc C_TooMany fs_TooMany.reverse [c, b, a]), .lst [a, b, c], .lst [a, b, c]], D.tup [.str "BadName", (D.exc C_BadName fs_BadName.reverse [a]), .lst [a], .lst [a]], D.tup [.str "BadName", (D.exc C_BadName fs_BadName.reverse [a]), .lst [a], .lst [a]]]), some (.d (D.exc C_NoName fs_NoName.reverse [a])), some (.d (D.exc C_NoName fs_NoName.reverse [a])), none, none, none, none] ∧ n' = m0) ?R14 (fun nx hnx => ?S14)
  case S14 =>
    rw [s_asg]
    simp only [s_onE, w_bind, w_pure, w_need, w_calm, g_0, g_s]
    exact ⟨rfl, hnx _ _ ⟨rfl, rfl⟩⟩
  intro ρ1 n1 h1
  obtain ⟨e1, e2⟩ := h1
  rw [e1, e2]
  clear e1 e2 ρ1 n1
  refine seq_split (fun ρ' n' => ρ' = [some (.d a), some (.d b), some (.d c), some (.ml [D.tup [.str "Unlike", (D.exc C_Unlike fs_Unlike.reverse [a]), .lst [a], .lst [a]], D.tup [.str "Unlike", (D.exc C_Unlike fs_Unlike.reverse [a]), .lst [a], .lst [a]], D.tup [.str "TooMany", (D.exc C_TooMany fs_TooMany.reverse [c, b, a]), .lst [a, b, c], .lst [a, b, c]], D.tup [.str "TooMany", (D.exc C_TooMany fs_TooMany.reverse [c, b, a]), .lst [a, b, c], .lst [a, b, c]], D.tup [.str "BadName", (D.exc C_BadName fs_BadName.reverse [a]), .lst [a], .lst [a]], D.tup [.str "BadName", (D.exc C_BadName fs_BadName.reverse [a]), .lst [a], .lst [a]], D.tup [.str "NoName", (D.exc C_NoName fs_NoName.reverse [a]), .lst [a], .lst [a]]]), some (.d (D.exc C_NoName fs_NoName.reverse [a])), some (.d (D.exc C_NoName fs_NoName.reverse [a])), none, none, none, none] ∧ n' = m0) ?R15 (fun nx hnx => ?S15)
  case S15 =>
    refine app_intro (ds := [D.tup [.str "Unlike", (D.exc C_Unlike fs_Unlike.reverse [a]), .lst [a], .lst [a]], D.tup [.str "Unlike", (D.exc C_Unlike fs_Unlike.reverse [a]), .lst [a], .lst [a]], D.tup [.str "TooMany", (D.exc C_TooMany fs_TooMany.reverse [c, b, a]), .lst [a, b, c], .lst [a, b, c]], D.tup [.str "TooMany", (D.exc C_TooMany fs_TooMany.reverse [c, b, a]), .lst [a, b, c], .lst [a, b, c]], D.tup [.str "BadName", (D.exc C_BadName fs_BadName.reverse [a]), .lst [a], .lst [a]], D.tup [.str "BadName", (D.exc C_BadName fs_BadName.reverse [a]), .lst [a], .lst [a]]]) rfl ?_
    simp only [s_onE, w_bind, w_pure, w_need, w_calm, g_0, g_s]
    exact ⟨fits_small (by simp), _, (attB_ok att (C := C_NoName) (fs := fs_NoName) (by simp) (f := "name") (by simp)).1, (attB_ok att (C := C_NoName) (fs := fs_NoName) (by simp) (f := "name") (by simp)).2, rfl, fits_small (by simp), fits_small (by simp), by rw [sizeLine_eq]; simp, hnx _ _ ⟨rfl, rfl⟩⟩
  intro ρ1 n1 h1
  obtain ⟨e1, e2⟩ := h1
  rw [e1, e2]
  clear e1 e2 ρ1 n1
  refine seq_split (fun ρ' n' => ρ' = [some (.d a), some (.d b), some (.d c), some (.ml [D.tup [.str "Unlike", (D.exc C_Unlike fs_Unlike.reverse [a]), .lst [a], .lst [a]], D.tup [.str "Unlike", (D.exc C_Unlike fs_Unlike.reverse [a]), .lst [a], .lst [a]], D.tup [.str "TooMany", (D.exc C_TooMany fs_TooMany.reverse [c, b, a]), .lst [a, b, c], .lst [a, b, c]], D.tup [.str "TooMany", (D.exc C_TooMany fs_TooMany.reverse [c, b, a]), .lst [a, b, c], .lst [a, b, c]], D.tup [.str "BadName", (D.exc C_BadName fs_BadName.reverse [a]), .lst [a], .lst [a]], D.tup [.str "BadName", (D.exc C_BadName fs_BadName.reverse [a]), .lst [a], .lst [a]], D.tup [.str "NoName", (D.exc C_NoName fs_NoName.reverse [a]), .lst [a], .lst [a]], D.tup [.str "NoName", (D.exc C_NoName fs_NoName.reverse [a]), .lst [a], .lst [a]]]), some (.d (D.exc C_NoName fs_NoName.reverse [a])), some (.d (D.exc C_NoName fs_NoName.reverse [a])), none, none, none, none] ∧ n' = m0) ?R16 (fun nx hnx => ?S16)
  case S16 =>
    refine app_intro (ds := [D.tup [.str "Unlike", (D.exc C_Unlike fs_Unlike.reverse [a]), .lst [a], .lst [a]], D.tup [.str "Unlike", (D.exc C_Unlike fs_Unlike.reverse [a]), .lst [a], .lst [a]], D.tup [.str "TooMany", (D.exc C_TooMany fs_TooMany.reverse [c, b, a]), .lst [a, b, c], .lst [a, b, c]], D.tup [.str "TooMany", (D.exc C_TooMany fs_TooMany.reverse [c, b, a]), .lst [a, b, c], .lst [a, b, c]], D.tup [.str "BadName", (D.exc C_BadName fs_BadName.reverse [a]), .lst [a], .lst [a]], D.tup [.str "BadName", (D.exc C_BadName fs_BadName.reverse [a]), .lst [a], .lst [a]], D.tup [.str "NoName", (D.exc C_NoName fs_NoName.reverse [a]), .lst [a], .lst [a]]]) rfl ?_
    simp only [s_onE, w_bind, w_pure, w_need, w_calm, g_0, g_s]
    exact ⟨fits_small (by simp), _, (attB_ok att (C := C_NoName) (fs := fs_NoName) (by simp) (f := "name") (by simp)).1, (attB_ok att (C := C_NoName) (fs := fs_NoName) (by simp) (f := "name") (by simp)).2, rfl, fits_small (by simp), fits_small (by simp), by rw [sizeLine_eq]; simp, hnx _ _ ⟨rfl, rfl⟩⟩
  intro ρ1 n1 h1
  obtain ⟨e1, e2⟩ := h1
  rw [e1, e2]
  clear e1 e2 ρ1 n1
  refine seq_split (fun ρ' n' => ρ' = [some (.d a), some (.d b), some (.d c), some (.ml [D.tup [.str "Unlike", (D.exc C_Unlike fs_Unlike.reverse [a]), .lst [a], .lst [a]], D.tup [.str "Unlike", (D.exc C_Unlike fs_Unlike.reverse [a]), .lst [a], .lst [a]], D.tup [.str "TooMany", (D.exc C_TooMany fs_TooMany.reverse [c, b, a]), .lst [a, b, c], .lst [a, b, c]], D.tup [.str "TooMany", (D.exc C_TooMany fs_TooMany.reverse [c, b, a]), .lst [a, b, c], .lst [a, b, c]], D.tup [.str "BadName", (D.exc C_BadName fs_BadName.reverse [a]), .lst [a], .lst [a]], D.tup [.str "BadName", (D.exc C_BadName fs_BadName.reverse [a]), .lst [a], .lst [a]], D.tup [.str "NoName", (D.exc C_NoName fs_NoName.reverse [a]), .lst [a], .lst [a]], D.tup [.str "NoName", (D.exc C_NoName fs_NoName.reverse [a]), .lst [a], .lst [a]]]), some (.d (D.exc C_TakenName fs_TakenName.reverse [a])), some (.d (D.exc C_NoName fs_NoName.reverse [a])), none, none, none, none] ∧ n' = m0) ?R17 (fun nx hnx => ?S17)
  case S17 =>
    rw [s_asg]
    simp only [s_onE, w_bind, w_pure, w_need, w_calm, g_0, g_s]
    exact ⟨rfl, hnx _ _ ⟨rfl, rfl⟩⟩
  intro ρ1 n1 h1
  obtain ⟨e1, e2⟩ := h1
  rw [e1, e2]
  clear e1 e2 ρ1 n1
  refine seq_split (fun ρ' n' => ρ' = [some (.d a), some (.d b), some (.d c), some (.ml [D.tup [.str "Unlike", (D.exc C_Unlike fs_Unlike.reverse [a]), .lst [a], .lst [a]], D.tup [.str "Unlike", (D.exc C_Unlike fs_Unlike.reverse [a]), .lst [a], .lst [a]], D.tup [.str "TooMany", (D.exc C_TooMany fs_TooMany.reverse [c, b, a]), .lst [a, b, c], .lst [a, b, c]], D.tup [.str "TooMany", (D.exc C_TooMany fs_TooMany.reverse [c, b, a]), .lst [a, b, c], .lst [a, b, c]], D.tup [.str "BadName", (D.exc C_BadName fs_BadName.reverse [a]), .lst [a], .lst [a]], D.tup [.str "BadName", (D.exc C_BadName fs_BadName.reverse [a]), .lst [a], .lst [a]], D.tup [.str "NoName", (D.exc C_NoName fs_NoName.reverse [a]), .lst [a], .lst [a]], D.tup [.str "NoName", (D.exc C_NoName fs_NoName.reverse [a]), .lst [a], .lst [a]]]), some (.d (D.exc C_TakenName fs_TakenName.reverse [a])), some (.d (D.exc C_TakenName fs_TakenName.reverse [a])), none, none, none, none] ∧ n' = m0) ?R18 (fun nx hnx => ?S18)
  case S18 =>
    rw [s_asg]
    simp only [s_onE, w_bind, w_pure, w_need, w_calm, g_0, g_s]
    exact ⟨rfl, hnx _ _ ⟨rfl, rfl⟩⟩
  intro ρ1 n1 h1
  obtain ⟨e1, e2⟩ := h1
  rw [e1, e2]
  clear e1 e2 ρ1 n1
  refine seq_split (fun ρ' n' => ρ' = [some (.d a), some (.d b), some (.d c), some (.ml [D.tup [.str "Unlike", (D.exc C_Unlike fs_Unlike.reverse [a]), .lst [a], .lst [a]], D.tup [.str "Unlike", (D.exc C_Unlike fs_Unlike.reverse [a]), .lst [a], .lst [a]], D.tup [.str "TooMany", (D.exc C_TooMany fs_TooMany.reverse [c, b, a]), .lst [a, b, c], .lst [a, b, c]], D.tup [.str "TooMany", (D.exc C_TooMany fs_TooMany.reverse [c, b, a]), .lst [a, b, c], .lst [a, b, c]], D.tup [.str "BadName", (D.exc C_BadName fs_BadName.reverse [a]), .lst [a], .lst [a]], D.tup [.str "BadName", (D.exc C_BadName fs_BadName.reverse [a]), .lst [a], .lst [a]], D.tup [.str "NoName", (D.exc C_NoName fs_NoName.reverse [a]), .lst [a], .lst [a]], D.tup [.str "NoName", (D.exc C_NoName fs_NoName.reverse [a]), .lst [a], .lst [a]], D.tup [.str "TakenName", (D.exc C_TakenName fs_TakenName.reverse [a]), .lst [a], .lst [a]]]), some (.d (D.exc C_TakenName fs_TakenName.reverse [a])), some (.d (D.exc C_TakenName fs_TakenName.reverse [a])), none, none, none, none] ∧ n' = m0) ?R19 (fun nx hnx => ?S19)
  case S19 =>
    refine app_intro (ds := [D.tup [.str "Unlike", (D.exc C_Unlike fs_Unlike.reverse [a]), .lst [a], .lst [a]], D.tup [.str "Unlike", (D.exc C_Unlike fs_Unlike.reverse [a]), .lst [a], .lst [a]], D.tup [.str "TooMany", (D.exc C_TooMany fs_TooMany.reverse [c, b, a]), .lst [a, b, c], .lst [a, b, c]], D.tup [.str "TooMany", (D.exc C_TooMany fs_TooMany.reverse [c, b, a]), .lst [a, b, c], .lst [a, b, c]], D.tup [.str "BadName", (D.exc C_BadName fs_BadName.reverse [a]), .lst [a], .lst [a]], D.tup [.str "BadName", (D.exc C_BadName fs_BadName.reverse [a]), .lst [a], .lst [a]], D.tup [.str "NoName", (D.exc C_NoName fs_NoName.reverse [a]), .lst [a], .lst [a]], D.tup [.str "NoName", (D.exc C_NoName fs_NoName.reverse [a]), .lst [a], .lst [a]]]) rfl ?_
    simp only [s_onE, w_bind, w_pure, w_need, w_calm, g_0, g_s]
    exact ⟨fits_small (by simp), _, (attB_ok att (C := C_TakenName) (fs := fs_TakenName) (by simp) (f := "name") (by simp)).1, (attB_ok att (C := C_TakenName) (fs := fs_TakenName) (by simp) (f := "name") (by simp)).2, rfl, fits_small (by simp), fits_small (by simp), by rw [sizeLine_eq]; simp, hnx _ _ ⟨rfl, rfl⟩⟩
  intro ρ1 n1 h1
  obtain ⟨e1, e2⟩ := h1
  rw [e1, e2]
  clear e1 e2 ρ1 n1
  refine seq_split (fun ρ' n' => ρ' = [some (.d a), some (.d b), some (.d c), some (.ml [D.tup [.str "Unlike", (D.exc C_Unlike fs_Unlike.reverse [a]), .lst [a], .lst [a]], D.tup [.str "Unlike", (D.exc C_Unlike fs_Unlike.reverse [a]), .lst [a], .lst [a]], D.tup [.str "TooMany", (D.exc C_TooMany fs_TooMany.reverse [c, b, a]), .lst [a, b, c], .lst [a, b, c]], D.tup [.str "TooMany", (D.exc C_TooMany fs_TooMany.reverse [c, b, a]), .lst [a, b, c], .lst [a, b, c]], D.tup [.str "BadName", (D.exc C_BadName fs_BadName.reverse [a]), .lst [a], .lst [a]], D.tup [.str "BadName", (D.exc C_BadName fs_BadName.reverse [a]), .lst [a], .lst [a]], D.tup [.str "NoName", (D.exc C_NoName fs_NoName.reverse [a]), .lst [a], .lst [a]], D.tup [.str "NoName", (D.exc C_NoName fs_NoName.reverse [a]), .lst [a], .lst [a]], D.tup [.str "TakenName", (D.exc C_TakenName fs_TakenName.reverse [a]), .lst [a], .lst [a]], D.tup [.str "TakenName", (D.exc C_TakenName fs_TakenName.reverse [a]), .lst [a], .lst [a]]]), some (.d (D.exc C_TakenName fs_TakenName.reverse [a])), some (.d (D.exc C_TakenName fs_TakenName.reverse [a])), none, none, none, none] ∧ n' = m0) ?R20 (fun nx hnx => ?S20)
  case S20 =>
    refine app_intro (ds := [D.tup [.str "Unlike", (D.exc C_Unlike fs_Unlike.reverse [a]), .lst [a], .lst [a]], D.tup [.str "Unlike", (D.exc C_Unlike fs_Unlike.reverse [a]), .lst [a], .lst [a]], D.tup [.str "TooMany", (D.exc C_TooMany fs_TooMany.reverse [c, b, a]), .lst [a, b, c], .lst [a, b, c]], D.tup [.str "TooMany", (D.exc C_TooMany fs_TooMany.reverse [c, b, a]), .lst [a, b, c], .lst [a, b, c]], D.tup [.str "BadName", (D.exc C_BadName fs_BadName.reverse [a]), .lst [a], .lst [a]], D.tup [.str "BadName", (D.exc C_BadName fs_BadName.reverse [a]), .lst [a], .lst [a]], D.tup [.str "NoName", (D.exc C_NoName fs_NoName.reverse [a]), .lst [a], .lst [a]], D.tup [.str "NoName", (D.exc C_NoName fs_NoName.reverse [a]), .lst [a], .lst [a]], D.tup [.str "TakenName", (D.exc C_TakenName fs_TakenName.reverse [a]), .lst [a], .lst [a]]]) rfl ?_
    simp only [s_onE, w_bind, w_pure, w_need, w_calm, g_0, g_s]
    exact ⟨fits_small (by simp), _, (attB_ok att (C := C_TakenName) (fs := fs_TakenName) (by simp) (f := "name") (by simp)).1, (attB_ok att (C := C_TakenName) (fs := fs_TakenName) (by simp) (f := "name") (by simp)).2, rfl, fits_small (by simp), fits_small (by simp), by rw [sizeLine_eq]; simp, hnx _ _ ⟨rfl, rfl⟩⟩
  intro ρ1 n1 h1
  obtain ⟨e1, e2⟩ := h1
  rw [e1, e2]
  clear e1 e2 ρ1 n1
  refine seq_split (fun ρ' n' => ρ' = [some (.d a), some (.d b), some (.d c), some (.ml [D.tup [.str "Unlike", (D.exc C_Unlike fs_Unlike.reverse [a]), .lst [a], .lst [a]], D.tup [.str "Unlike", (D.exc C_Unlike fs_Unlike.reverse [a]), .lst [a], .lst [a]], D.tup [.str "TooMany", (D.exc C_TooMany fs_TooMany.reverse [c, b, a]), .lst [a, b, c], .lst [a, b, c]], D.tup [.str "TooMany", (D.exc C_TooMany fs_TooMany.reverse [c, b, a]), .lst [a, b, c], .lst [a, b, c]], D.tup [.str "BadName", (D.exc C_BadName fs_BadName.reverse [a]), .lst [a], .lst [a]], D.tup [.str "BadName", (D.exc C_BadName fs_BadName.reverse [a]), .lst [a], .lst [a]], D.tup [.str "NoName", (D.exc C_NoName fs_NoName.reverse [a]), .lst [a], .lst [a]], D.tup [.str "NoName", (D.exc C_NoName fs_NoName.reverse [a]), .lst [a], .lst [a]], D.tup [.str "TakenName", (D.exc C_TakenName fs_TakenName.reverse [a]), .lst [a], .lst [a]], D.tup [.str "TakenName", (D.exc C_TakenName fs_TakenName.reverse [a]), .lst [a], .lst [a]]]), some (.d (D.exc C_NothingToUndo [] [])), some (.d (D.exc C_TakenName fs_TakenName.reverse [a])), none, none, none, none] ∧ n' = m0) ?R21 (fun nx hnx => ?S21)
  case S21 =>
    rw [s_asg]
    simp only [s_onE, w_bind, w_pure, w_need, w_calm, g_0, g_s]
    exact hnx _ _ ⟨rfl, rfl⟩
  intro ρ1 n1 h1
  obtain ⟨e1, e2⟩ := h1
  rw [e1, e2]
  clear e1 e2 ρ1 n1
  refine seq_split (fun ρ' n' => ρ' = [some (.d a), some (.d b), some (.d c), some (.ml [D.tup [.str "Unlike", (D.exc C_Unlike fs_Unlike.reverse [a]), .lst [a], .lst [a]], D.tup [.str "Unlike", (D.exc C_Unlike fs_Unlike.reverse [a]), .lst [a], .lst [a]], D.tup [.str "TooMany", (D.exc C_TooMany fs_TooMany.reverse [c, b, a]), .lst [a, b, c], .lst [a, b, c]], D.tup [.str "TooMany", (D.exc C_TooMany fs_TooMany.reverse [c, b, a]), .lst [a, b, c], .lst [a, b, c]], D.tup [.str "BadName", (D.exc C_BadName fs_BadName.reverse [a]), .lst [a], .lst [a]], D.tup [.str "BadName", (D.exc C_BadName fs_BadName.reverse [a]), .lst [a], .lst [a]], D.tup [.str "NoName", (D.exc C_NoName fs_NoName.reverse [a]), .lst [a], .lst [a]], D.tup [.str "NoName", (D.exc C_NoName fs_NoName.reverse [a]), .lst [a], .lst [a]], D.tup [.str "TakenName", (D.exc C_TakenName fs_TakenName.reverse [a]), .lst [a], .lst [a]], D.tup [.str "TakenName", (D.exc C_TakenName fs_TakenName.reverse [a]), .lst [a], .lst [a]]]), some (.d (D.exc C_NothingToUndo [] [])), some (.d (D.exc C_NothingToUndo [] [])), none, none, none, none] ∧ n' = m0) ?R22 (fun nx hnx => ?S22)
  case S22 =>
    rw [s_asg]
    simp only [s_onE, w_bind, w_pure, w_need, w_calm, g_0, g_s]
    exact hnx _ _ ⟨rfl, rfl⟩
  intro ρ1 n1 h1
  obtain ⟨e1, e2⟩ := h1
  rw [e1, e2]
  clear e1 e2 ρ1 n1
  refine seq_split (fun ρ' n' => ρ' = [some (.d a), some (.d b), some (.d c), some (.ml [D.tup [.str "Unlike", (D.exc C_Unlike fs_Unlike.reverse [a]), .lst [a], .lst [a]], D.tup [.str "Unlike", (D.exc C_Unlike fs_Unlike.reverse [a]), .lst [a], .lst [a]], D.tup [.str "TooMany", (D.exc C_TooMany fs_TooMany.reverse [c, b, a]), .lst [a, b, c], .lst [a, b, c]], D.tup [.str "TooMany", (D.exc C_TooMany fs_TooMany.reverse [c, b, a]), .lst [a, b, c], .lst [a, b, c]], D.tup [.str "BadName", (D.exc C_BadName fs_BadName.reverse [a]), .lst [a], .lst [a]], D.tup [.str "BadName", (D.exc C_BadName fs_BadName.reverse [a]), .lst [a], .lst [a]], D.tup [.str "NoName", (D.exc C_NoName fs_NoName.reverse [a]), .lst [a], .lst [a]], D.tup [.str "NoName", (D.exc C_NoName fs_NoName.reverse [a]), .lst [a], .lst [a]], D.tup [.str "TakenName", (D.exc C_TakenName fs_TakenName.reverse [a]), .lst [a], .lst [a]], D.tup [.str "TakenName", (D.exc C_TakenName fs_TakenName.reverse [a]), .lst [a], .lst [a]], D.tup [.str "NothingToUndo", (D.exc C_NothingToUndo [] []), .lst [], .lst []]]), some (.d (D.exc C_NothingToUndo [] [])), some (.d (D.exc C_NothingToUndo [] [])), none, none, none, none] ∧ n' = m0) ?R23 (fun nx hnx => ?S23)
  case S23 =>
    refine app_intro (ds := [D.tup [.str "Unlike", (D.exc C_Unlike fs_Unlike.reverse [a]), .lst [a], .lst [a]], D.tup [.str "Unlike", (D.exc C_Unlike fs_Unlike.reverse [a]), .lst [a], .lst [a]], D.tup [.str "TooMany", (D.exc C_TooMany fs_TooMany.reverse [c, b, a]), .lst [a, b, c], .lst [a, b, c]], D.tup [.str "TooMany", (D.exc C_TooMany fs_TooMany.reverse [c, b, a]), .lst [a, b, c], .lst [a, b, c]], D.tup [.str "BadName", (D.exc C_BadName fs_BadName.reverse [a]), .lst [a], .lst [a]], D.tup [.str "BadName", (D.exc C_BadName fs_BadName.reverse [a]), .lst [a], .lst [a]], D.tup [.str "NoName", (D.exc C_NoName fs_NoName.reverse [a]), .lst [a], .lst [a]], D.tup [.str "NoName", (D.exc C_NoName fs_NoName.reverse [a]), .lst [a], .lst [a]], D.tup [.str "TakenName", (D.exc C_TakenName fs_TakenName.reverse [a]), .lst [a], .lst [a]], D.tup [.str "TakenName", (D.exc C_TakenName fs_TakenName.reverse [a]), .lst [a], .lst [a]]]) rfl ?_
    simp only [s_onE, w_bind, w_pure, w_need, w_calm, g_0, g_s]
    exact ⟨fits_small (by simp), by rw [sizeLine_eq]; simp, hnx _ _ ⟨rfl, rfl⟩⟩
  intro ρ1 n1 h1
  obtain ⟨e1, e2⟩ := h1
  rw [e1, e2]
  clear e1 e2 ρ1 n1
  refine seq_split (fun ρ' n' => ρ' = [some (.d a), some (.d b), some (.d c), some (.ml [D.tup [.str "Unlike", (D.exc C_Unlike fs_Unlike.reverse [a]), .lst [a], .lst [a]], D.tup [.str "Unlike", (D.exc C_Unlike fs_Unlike.reverse [a]), .lst [a], .lst [a]], D.tup [.str "TooMany", (D.exc C_TooMany fs_TooMany.reverse [c, b, a]), .lst [a, b, c], .lst [a, b, c]], D.tup [.str "TooMany", (D.exc C_TooMany fs_TooMany.reverse [c, b, a]), .lst [a, b, c], .lst [a, b, c]], D.tup [.str "BadName", (D.exc C_BadName fs_BadName.reverse [a]), .lst [a], .lst [a]], D.tup [.str "BadName", (D.exc C_BadName fs_BadName.reverse [a]), .lst [a], .lst [a]], D.tup [.str "NoName", (D.exc C_NoName fs_NoName.reverse [a]), .lst [a], .lst [a]], D.tup [.str "NoName", (D.exc C_NoName fs_NoName.reverse [a]), .lst [a], .lst [a]], D.tup [.str "TakenName", (D.exc C_TakenName fs_TakenName.reverse [a]), .lst [a], .lst [a]], D.tup [.str "TakenName", (D.exc C_TakenName fs_TakenName.reverse [a]), .lst [a], .lst [a]], D.tup [.str "NothingToUndo", (D.exc C_NothingToUndo [] []), .lst [], .lst []], D.tup [.str "NothingToUndo", (D.exc C_NothingToUndo [] []), .lst [], .lst []]]), some (.d (D.exc C_NothingToUndo [] [])), some (.d (D.exc C_NothingToUndo [] [])), none, none, none, none] ∧ n' = m0) ?R24 (fun nx hnx => ?S24)
  case S24 =>
    refine app_intro (ds := [D.tup [.str "Unlike", (D.exc C_Unlike fs_Unlike.reverse [a]), .lst [a], .lst [a]], D.tup [.str "Unlike", (D.exc C_Unlike fs_Unlike.reverse [a]), .lst [a], .lst [a]], D.tup [.str "TooMany", (D.exc C_TooMany fs_TooMany.reverse [c, b, a]), .lst [a, b, c], .lst [a, b, c]], D.tup [.str "TooMany", (D.exc C_TooMany fs_TooMany.reverse [c, b, a]), .lst [a, b, c], .lst [a, b, c]], D.tup [.str "BadName", (D.exc C_BadName fs_BadName.reverse [a]), .lst [a], .lst [a]], D.tup [.str "BadName", (D.exc C_BadName fs_BadName.reverse [a]), .lst [a], .lst [a]], D.tup [.str "NoName", (D.exc C_NoName fs_NoName.reverse [a]), .lst [a], .lst [a]], D.tup [.str "NoName", (D.exc C_NoName fs_NoName.reverse [a]), .lst [a], .lst [a]], D.tup [.str "TakenName", (D.exc C_TakenName fs_TakenName.reverse [a]), .lst [a], .lst [a]], D.tup [.str "TakenName", (D.exc C_TakenName fs_TakenName.reverse [a]), .lst [a], .lst [a]], D.tup [.str "NothingToUndo", (D.exc C_NothingToUndo [] []), .lst [], .lst []]]) rfl ?_
    simp only [s_onE, w_bind, w_pure, w_need, w_calm, g_0, g_s]
    exact ⟨fits_small (by simp), by rw [sizeLine_eq]; simp, hnx _ _ ⟨rfl, rfl⟩⟩
  intro ρ1 n1 h1
  obtain ⟨e1, e2⟩ := h1
  rw [e1, e2]
  clear e1 e2 ρ1 n1
  refine seq_split (fun ρ' n' => ρ' = [some (.d a), some (.d b), some (.d c), some (.ml [D.tup [.str "Unlike", (D.exc C_Unlike fs_Unlike.reverse [a]), .lst [a], .lst [a]], D.tup [.str "Unlike", (D.exc C_Unlike fs_Unlike.reverse [a]), .lst [a], .lst [a]], D.tup [.str "TooMany", (D.exc C_TooMany fs_TooMany.reverse [c, b, a]), .lst [a, b, c], .lst [a, b, c]], D.tup [.str "TooMany", (D.exc C_TooMany fs_TooMany.reverse [c, b, a]), .lst [a, b, c], .lst [a, b, c]], D.tup [.str "BadName", (D.exc C_BadName fs_BadName.reverse [a]), .lst [a], .lst [a]], D.tup [.str "BadName", (D.exc C_BadName fs_BadName.reverse [a]), .lst [a], .lst [a]], D.tup [.str "NoName", (D.exc C_NoName fs_NoName.reverse [a]), .lst [a], .lst [a]], D.tup [.str "NoName", (D.exc C_NoName fs_NoName.reverse [a]), .lst [a], .lst [a]], D.tup [.str "TakenName", (D.exc C_TakenName fs_TakenName.reverse [a]), .lst [a], .lst [a]], D.tup [.str "TakenName", (D.exc C_TakenName fs_TakenName.reverse [a]), .lst [a], .lst [a]], D.tup [.str "NothingToUndo", (D.exc C_NothingToUndo [] []), .lst [], .lst []], D.tup [.str "NothingToUndo", (D.exc C_NothingToUndo [] []), .lst [], .lst []]]), some (.d (D.exc C_NothingToRedo [] [])), some (.d (D.exc C_NothingToUndo [] [])), none, none, none, none] ∧ n' = m0) ?R25 (fun nx hnx => ?S25)
  case S25 =>
    rw [s_asg]
    simp only [s_onE, w_bind, w_pure, w_need, w_calm, g_0, g_s]
    exact hnx _ _ ⟨rfl, rfl⟩
  intro ρ1 n1 h1
  obtain ⟨e1, e2⟩ := h1
  rw [e1, e2]
  clear e1 e2 ρ1 n1
  refine seq_split (fun ρ' n' => ρ' = [some (.d a), some (.d b), some (.d c), some (.ml [D.tup [.str "Unlike", (D.exc C_Unlike fs_Unlike.reverse [a]), .lst [a], .lst [a]], D.tup [.str "Unlike", (D.exc C_Unlike fs_Unlike.reverse [a]), .lst [a], .lst [a]], D.tup [.str "TooMany", (D.exc C_TooMany fs_TooMany.reverse [c, b, a]), .lst [a, b, c], .lst [a, b, c]], D.tup [.str "TooMany", (D.exc C_TooMany fs_TooMany.reverse [c, b, a]), .lst [a, b, c], .lst [a, b, c]], D.tup [.str "BadName", (D.exc C_BadName fs_BadName.reverse [a]), .lst [a], .lst [a]], D.tup [.str "BadName", (D.exc C_BadName fs_BadName.reverse [a]), .lst [a], .lst [a]], D.tup [.str "NoName", (D.exc C_NoName fs_NoName.reverse [a]), .lst [a], .lst [a]], D.tup [.str "NoName", (D.exc C_NoName fs_NoName.reverse [a]), .lst [a], .lst [a]], D.tup [.str "TakenName", (D.exc C_TakenName fs_TakenName.reverse [a]), .lst [a], .lst [a]], D.tup [.str "TakenName", (D.exc C_TakenName fs_TakenName.reverse [a]), .lst [a], .lst [a]], D.tup [.str "NothingToUndo", (D.exc C_NothingToUndo [] []), .lst [], .lst []], D.tup [.str "NothingToUndo", (D.exc C_NothingToUndo [] []), .lst [], .lst []]]), some (.d (D.exc C_NothingToRedo [] [])), some (.d (D.exc C_NothingToRedo [] [])), none, none, none, none] ∧ n' = m0) ?R26 (fun nx hnx => ?S26)
  case S26 =>
    rw [s_asg]
    simp only [s_onE, w_bind, w_pure, w_need, w_calm, g_0, g_s]
    exact hnx _ _ ⟨rfl, rfl⟩
  intro ρ1 n1 h1
  obtain ⟨e1, e2⟩ := h1
  rw [e1, e2]
  clear e1 e2 ρ1 n1
  refine seq_split (fun ρ' n' => ρ' = [some (.d a), some (.d b), some (.d c), some (.ml [D.tup [.str "Unlike", (D.exc C_Unlike fs_Unlike.reverse [a]), .lst [a], .lst [a]], D.tup [.str "Unlike", (D.exc C_Unlike fs_Unlike.reverse [a]), .lst [a], .lst [a]], D.tup [.str "TooMany", (D.exc C_TooMany fs_TooMany.reverse [c, b, a]), .lst [a, b, c], .lst [a, b, c]], D.tup [.str "TooMany", (D.exc C_TooMany fs_TooMany.reverse [c, b, a]), .lst [a, b, c], .lst [a, b, c]], D.tup [.str "BadName", (D.exc C_BadName fs_BadName.reverse [a]), .lst [a], .lst [a]], D.tup [.str "BadName", (D.exc C_BadName fs_BadName.reverse [a]), .lst [a], .lst [a]], D.tup [.str "NoName", (D.exc C_NoName fs_NoName.reverse [a]), .lst [a], .lst [a]], D.tup [.str "NoName", (D.exc C_NoName fs_NoName.reverse [a]), .lst [a], .lst [a]], D.tup [.str "TakenName", (D.exc C_TakenName fs_TakenName.reverse [a]), .lst [a], .lst [a]], D.tup [.str "TakenName", (D.exc C_TakenName fs_TakenName.reverse [a]), .lst [a], .lst [a]], D.tup [.str "NothingToUndo", (D.exc C_NothingToUndo [] []), .lst [], .lst []], D.tup [.str "NothingToUndo", (D.exc C_NothingToUndo [] []), .lst [], .lst []], D.tup [.str "NothingToRedo", (D.exc C_NothingToRedo [] []), .lst [], .lst []]]), some (.d (D.exc C_NothingToRedo [] [])), some (.d (D.exc C_NothingToRedo [] [])), none, none, none, none] ∧ n' = m0) ?R27 (fun nx hnx => ?S27)
  case S27 =>
    refine app_intro (ds := [D.tup [.str "Unlike", (D.exc C_Unlike fs_Unlike.reverse [a]), .lst [a], .lst [a]], D.tup [.str "Unlike", (D.exc C_Unlike fs_Unlike.reverse [a]), .lst [a], .lst [a]], D.tup [.str "TooMany", (D.exc C_TooMany fs_TooMany.reverse [c, b, a]), .lst [a, b, c], .lst [a, b, c]], D.tup [.str "TooMany", (D.exc C_TooMany fs_TooMany.reverse [c, b, a]), .lst [a, b, c], .lst [a, b, c]], D.tup [.str "BadName", (D.exc C_BadName fs_BadName.reverse [a]), .lst [a], .lst [a]], D.tup [.str "BadName", (D.exc C_BadName fs_BadName.reverse [a]), .lst [a], .lst [a]], D.tup [.str "NoName", (D.exc C_NoName fs_NoName.reverse [a]), .lst [a], .lst [a]], D.tup [.str "NoName", (D.exc C_NoName fs_NoName.reverse [a]), .lst [a], .lst [a]], D.tup [.str "TakenName", (D.exc C_TakenName fs_TakenName.reverse [a]), .lst [a], .lst [a]], D.tup [.str "TakenName", (D.exc C_TakenName fs_TakenName.reverse [a]), .lst [a], .lst [a]], D.tup [.str "NothingToUndo", (D.exc C_NothingToUndo [] []), .lst [], .lst []], D.tup [.str "NothingToUndo", (D.exc C_NothingToUndo [] []), .lst [], .lst []]]) rfl ?_
    simp only [s_onE, w_bind, w_pure, w_need, w_calm, g_0, g_s]
    exact ⟨fits_small (by simp), by rw [sizeLine_eq]; simp, hnx _ _ ⟨rfl, rfl⟩⟩
  intro ρ1 n1 h1
  obtain ⟨e1, e2⟩ := h1
  rw [e1, e2]
  clear e1 e2 ρ1 n1
  refine seq_split (fun ρ' n' => ρ' = [some (.d a), some (.d b), some (.d c), some (.ml [D.tup [.str "Unlike", (D.exc C_Unlike fs_Unlike.reverse [a]), .lst [a], .lst [a]], D.tup [.str "Unlike", (D.exc C_Unlike fs_Unlike.reverse [a]), .lst [a], .lst [a]], D.tup [.str "TooMany", (D.exc C_TooMany fs_TooMany.reverse [c, b, a]), .lst [a, b, c], .lst [a, b, c]], D.tup [.str "TooMany", (D.exc C_TooMany fs_TooMany.reverse [c, b, a]), .lst [a, b, c], .lst [a, b, c]], D.tup [.str "BadName", (D.exc C_BadName fs_BadName.reverse [a]), .lst [a], .lst [a]], D.tup [.str "BadName", (D.exc C_BadName fs_BadName.reverse [a]), .lst [a], .lst [a]], D.tup [.str "NoName", (D.exc C_NoName fs_NoName.reverse [a]), .lst [a], .lst [a]], D.tup [.str "NoName", (D.exc C_NoName fs_NoName.reverse [a]), .lst [a], .lst [a]], D.tup [.str "TakenName", (D.exc C_TakenName fs_TakenName.reverse [a]), .lst [a], .lst [a]], D.tup [.str "TakenName", (D.exc C_TakenName fs_TakenName.reverse [a]), .lst [a], .lst [a]], D.tup [.str "NothingToUndo", (D.exc C_NothingToUndo [] []), .lst [], .lst []], D.tup [.str "NothingToUndo", (D.exc C_NothingToUndo [] []), .lst [], .lst []], D.tup [.str "NothingToRedo", (D.exc C_NothingToRedo [] []), .lst [], .lst []], D.tup [.str "NothingToRedo", (D.exc C_NothingToRedo [] []), .lst [], .lst []]]), some (.d (D.exc C_NothingToRedo [] [])), some (.d (D.exc C_NothingToRedo [] [])), none, none, none, none] ∧ n' = m0) ?R28 (fun nx hnx => ?S28)
  case S28 =>
    refine app_intro (ds := [D.tup [.str "Unlike", (D.exc C_Unlike fs_Unlike.reverse [a]), .lst [a], .lst [a]], D.tup [.str "Unlike", (D.exc C_Unlike fs_Unlike.reverse [a]), .lst [a], .lst [a]], D.tup [.str "TooMany", (D.exc C_TooMany fs_TooMany.reverse [c, b, a]), .lst [a, b, c], .lst [a, b, c]], D.tup [.str "TooMany", (D.exc C_TooMany fs_TooMany.reverse [c, b, a]), .lst [a, b, c], .lst [a, b, c]], D.tup [.str "BadName", (D.exc C_BadName fs_BadName.reverse [a]), .lst [a], .lst [a]], D.tup [.str "BadName", (D.exc C_BadName fs_BadName.reverse [a]), .lst [a], .lst [a]], D.tup [.str "NoName", (D.exc C_NoName fs_NoName.reverse [a]), .lst [a], .lst [a]], D.tup [.str "NoName", (D.exc C_NoName fs_NoName.reverse [a]), .lst [a], .lst [a]], D.tup [.str "TakenName", (D.exc C_TakenName fs_TakenName.reverse [a]), .lst [a], .lst [a]], D.tup [.str "TakenName", (D.exc C_TakenName fs_TakenName.reverse [a]), .lst [a], .lst [a]], D.tup [.str "NothingToUndo", (D.exc C_NothingToUndo [] []), .lst [], .lst []], D.tup [.str "NothingToUndo", (D.exc C_NothingToUndo [] []), .lst [], .lst []], D.tup [.str "NothingToRedo", (D.exc C_NothingToRedo [] []), .lst [], .lst []]]) rfl ?_
    simp only [s_onE, w_bind, w_pure, w_need, w_calm, g_0, g_s]
    exact ⟨fits_small (by simp), by rw [sizeLine_eq]; simp, hnx _ _ ⟨rfl, rfl⟩⟩
  intro ρ1 n1 h1
  obtain ⟨e1, e2⟩ := h1
  rw [e1, e2]
  clear e1 e2 ρ1 n1
  have hrows : ∀ t ∈ ([D.tup [.str "Unlike", (D.exc C_Unlike fs_Unlike.reverse [a]), .lst [a], .lst [a]], D.tup [.str "Unlike", (D.exc C_Unlike fs_Unlike.reverse [a]), .lst [a], .lst [a]], D.tup [.str "TooMany", (D.exc C_TooMany fs_TooMany.reverse [c, b, a]), .lst [a, b, c], .lst [a, b, c]], D.tup [.str "TooMany", (D.exc C_TooMany fs_TooMany.reverse [c, b, a]), .lst [a, b, c], .lst [a, b, c]], D.tup [.str "BadName", (D.exc C_BadName fs_BadName.reverse [a]), .lst [a], .lst [a]], D.tup [.str "BadName", (D.exc C_BadName fs_BadName.reverse [a]), .lst [a], .lst [a]], D.tup [.str "NoName", (D.exc C_NoName fs_NoName.reverse [a]), .lst [a], .lst [a]], D.tup [.str "NoName", (D.exc C_NoName fs_NoName.reverse [a]), .lst [a], .lst [a]], D.tup [.str "TakenName", (D.exc C_TakenName fs_TakenName.reverse [a]), .lst [a], .lst [a]], D.tup [.str "TakenName", (D.exc C_TakenName fs_TakenName.reverse [a]), .lst [a], .lst [a]], D.tup [.str "NothingToUndo", (D.exc C_NothingToUndo [] []), .lst [], .lst []], D.tup [.str "NothingToUndo", (D.exc C_NothingToUndo [] []), .lst [], .lst []], D.tup [.str "NothingToRedo", (D.exc C_NothingToRedo [] []), .lst [], .lst []], D.tup [.str "NothingToRedo", (D.exc C_NothingToRedo [] []), .lst [], .lst []]] : List D), ∃ (nm : Str) (C : Addr) (ns : List Str) (fs : List D) (d : D), t = .tup [.str nm, .exc C ns fs, d, d] ∧ (nm, C) ∈ (KINDS C_BadNumber C_BadText C_BadPoly C_BadTower C_BadRow C_BadTable C_BadPaper C_Unlike C_TooMany C_BadName C_NoName C_TakenName C_NothingToUndo C_NothingToRedo) ∧ ShowsX d := by
    intro t ht
    simp only [List.mem_cons, List.not_mem_nil, or_false] at ht
    have s0 : ShowsX (.lst []) := shows_lst (by simp) (by simp)
    have s1 : ShowsX (.lst [a]) := shows_lst (by simp) (forall_one ha)
    have s2 : ShowsX (.lst [a, b]) := shows_lst (by simp) (forall_more ha (forall_one hb))
    have s3 : ShowsX (.lst [a, b, c]) := shows_lst (by simp) (forall_more ha (forall_more hb (forall_one hc)))
    rcases ht with rfl | rfl | rfl | rfl | rfl | rfl | rfl | rfl | rfl | rfl | rfl | rfl | rfl | rfl
    · exact ⟨"Unlike", C_Unlike, _, _, _, rfl, by simp, s1⟩
    · exact ⟨"Unlike", C_Unlike, _, _, _, rfl, by simp, s1⟩
    · exact ⟨"TooMany", C_TooMany, _, _, _, rfl, by simp, s3⟩
    · exact ⟨"TooMany", C_TooMany, _, _, _, rfl, by simp, s3⟩
    · exact ⟨"BadName", C_BadName, _, _, _, rfl, by simp, s1⟩
    · exact ⟨"BadName", C_BadName, _, _, _, rfl, by simp, s1⟩
    · exact ⟨"NoName", C_NoName, _, _, _, rfl, by simp, s1⟩
    · exact ⟨"NoName", C_NoName, _, _, _, rfl, by simp, s1⟩
    · exact ⟨"TakenName", C_TakenName, _, _, _, rfl, by simp, s1⟩
    · exact ⟨"TakenName", C_TakenName, _, _, _, rfl, by simp, s1⟩
    · exact ⟨"NothingToUndo", C_NothingToUndo, _, _, _, rfl, by simp, s0⟩
    · exact ⟨"NothingToUndo", C_NothingToUndo, _, _, _, rfl, by simp, s0⟩
    · exact ⟨"NothingToRedo", C_NothingToRedo, _, _, _, rfl, by simp, s0⟩
    · exact ⟨"NothingToRedo", C_NothingToRedo, _, _, _, rfl, by simp, s0⟩
  have hlen : ([D.tup [.str "Unlike", (D.exc C_Unlike fs_Unlike.reverse [a]), .lst [a], .lst [a]], D.tup [.str "Unlike", (D.exc C_Unlike fs_Unlike.reverse [a]), .lst [a], .lst [a]], D.tup [.str "TooMany", (D.exc C_TooMany fs_TooMany.reverse [c, b, a]), .lst [a, b, c], .lst [a, b, c]], D.tup [.str "TooMany", (D.exc C_TooMany fs_TooMany.reverse [c, b, a]), .lst [a, b, c], .lst [a, b, c]], D.tup [.str "BadName", (D.exc C_BadName fs_BadName.reverse [a]), .lst [a], .lst [a]], D.tup [.str "BadName", (D.exc C_BadName fs_BadName.reverse [a]), .lst [a], .lst [a]], D.tup [.str "NoName", (D.exc C_NoName fs_NoName.reverse [a]), .lst [a], .lst [a]], D.tup [.str "NoName", (D.exc C_NoName fs_NoName.reverse [a]), .lst [a], .lst [a]], D.tup [.str "TakenName", (D.exc C_TakenName fs_TakenName.reverse [a]), .lst [a], .lst [a]], D.tup [.str "TakenName", (D.exc C_TakenName fs_TakenName.reverse [a]), .lst [a], .lst [a]], D.tup [.str "NothingToUndo", (D.exc C_NothingToUndo [] []), .lst [], .lst []], D.tup [.str "NothingToUndo", (D.exc C_NothingToUndo [] []), .lst [], .lst []], D.tup [.str "NothingToRedo", (D.exc C_NothingToRedo [] []), .lst [], .lst []], D.tup [.str "NothingToRedo", (D.exc C_NothingToRedo [] []), .lst [], .lst []]] : List D).length = 14 := rfl
  refine frz_intro (ds := [D.tup [.str "Unlike", (D.exc C_Unlike fs_Unlike.reverse [a]), .lst [a], .lst [a]], D.tup [.str "Unlike", (D.exc C_Unlike fs_Unlike.reverse [a]), .lst [a], .lst [a]], D.tup [.str "TooMany", (D.exc C_TooMany fs_TooMany.reverse [c, b, a]), .lst [a, b, c], .lst [a, b, c]], D.tup [.str "TooMany", (D.exc C_TooMany fs_TooMany.reverse [c, b, a]), .lst [a, b, c], .lst [a, b, c]], D.tup [.str "BadName", (D.exc C_BadName fs_BadName.reverse [a]), .lst [a], .lst [a]], D.tup [.str "BadName", (D.exc C_BadName fs_BadName.reverse [a]), .lst [a], .lst [a]], D.tup [.str "NoName", (D.exc C_NoName fs_NoName.reverse [a]), .lst [a], .lst [a]], D.tup [.str "NoName", (D.exc C_NoName fs_NoName.reverse [a]), .lst [a], .lst [a]], D.tup [.str "TakenName", (D.exc C_TakenName fs_TakenName.reverse [a]), .lst [a], .lst [a]], D.tup [.str "TakenName", (D.exc C_TakenName fs_TakenName.reverse [a]), .lst [a], .lst [a]], D.tup [.str "NothingToUndo", (D.exc C_NothingToUndo [] []), .lst [], .lst []], D.tup [.str "NothingToUndo", (D.exc C_NothingToUndo [] []), .lst [], .lst []], D.tup [.str "NothingToRedo", (D.exc C_NothingToRedo [] []), .lst [], .lst []], D.tup [.str "NothingToRedo", (D.exc C_NothingToRedo [] []), .lst [], .lst []]]) rfl ?_
  simp only [List.set_cons_succ, List.set_cons_zero]
  revert hrows hlen
  generalize ([D.tup [.str "Unlike", (D.exc C_Unlike fs_Unlike.reverse [a]), .lst [a], .lst [a]], D.tup [.str "Unlike", (D.exc C_Unlike fs_Unlike.reverse [a]), .lst [a], .lst [a]], D.tup [.str "TooMany", (D.exc C_TooMany fs_TooMany.reverse [c, b, a]), .lst [a, b, c], .lst [a, b, c]], D.tup [.str "TooMany", (D.exc C_TooMany fs_TooMany.reverse [c, b, a]), .lst [a, b, c], .lst [a, b, c]], D.tup [.str "BadName", (D.exc C_BadName fs_BadName.reverse [a]), .lst [a], .lst [a]], D.tup [.str "BadName", (D.exc C_BadName fs_BadName.reverse [a]), .lst [a], .lst [a]], D.tup [.str "NoName", (D.exc C_NoName fs_NoName.reverse [a]), .lst [a], .lst [a]], D.tup [.str "NoName", (D.exc C_NoName fs_NoName.reverse [a]), .lst [a], .lst [a]], D.tup [.str "TakenName", (D.exc C_TakenName fs_TakenName.reverse [a]), .lst [a], .lst [a]], D.tup [.str "TakenName", (D.exc C_TakenName fs_TakenName.reverse [a]), .lst [a], .lst [a]], D.tup [.str "NothingToUndo", (D.exc C_NothingToUndo [] []), .lst [], .lst []], D.tup [.str "NothingToUndo", (D.exc C_NothingToUndo [] []), .lst [], .lst []], D.tup [.str "NothingToRedo", (D.exc C_NothingToRedo [] []), .lst [], .lst []], D.tup [.str "NothingToRedo", (D.exc C_NothingToRedo [] []), .lst [], .lst []]] : List D) = R
  intro hrows hlen
  rw [s_onE]
  simp only [w_bind, w_pure, w_calm, s_lc, g_0, g_s, items_lst]
  refine lcD_const (y0 := .bl true) R [] _ (by rw [sizeLine_eq]; simp; omega) (fun t ht => ?_) ?_
  · obtain ⟨nm, C, ns, fs, d, rfl, hm, hd⟩ := hrows t ht
    refine ⟨[some (.d a), some (.d b), some (.d c), some (.d (.lst R)), some (.d (D.exc C_NothingToRedo [] [])), some (.d (D.exc C_NothingToRedo [] [])), some (.d (.str nm)), some (.d (.exc C ns fs)), some (.d d), some (.d d)], rfl, fun K1 hK => ?_⟩
    simp only [w_bind, w_pure, w_calm, w_need, g_0, g_s]
    exact ⟨rfl, nm, C, ns, fs, d, rfl, hm, hd, hK⟩
  · rw [List.nil_append, show List.replicate R.length (D.bl true) = (List.replicate R.length true).map D.bl from by rw [List.map_replicate], fAll_bools]
    have e : (List.replicate R.length true).all id = true := by simp
    rw [e]
    exact hk


theorem ok__law_is_caught  (F : DefF K mg "_law_is_caught" s__law_is_caught ["a", "b"]) (mC_DrawError : mg "DrawError" = some (.ref C_DrawError)) (v_BadNumber : ErrV P w K mg base "BadNumber" C_BadNumber fs_BadNumber 1) (xcd : PySem.W.exmOne K (.ref C_BadNumber) (.ref C_DrawError) = some true) : DefG P w K mg base "_law_is_caught" ["a", "b"] (2 + 1) w_caught := by
  obtain ⟨fi_BadNumber, fd_BadNumber, ps_BadNumber, T_BadNumber, i_BadNumber, t_BadNumber, F_BadNumber, B_BadNumber, W_BadNumber, l_BadNumber, g_BadNumber⟩ := v_BadNumber.ex
  refine def_ok (k := 2) F sc__law_is_caught (fun f cdv A outer s H E hg hr => (DSs.cons (DS.tryR (fun _ => rfl) (fun _ => rfl) (fun _ => rfl) (fun _ => ⟨by rfl, by decide, .inl mC_DrawError⟩) (fun _ => takes_of rfl rfl rfl rfl) (fun _ => (DSs.one (DS.raise (fun _ => rfl) (fun p => p.2) (fun _ => T_BadNumber) (by simp) (by simp) (fun _ => i_BadNumber) (fun _ => t_BadNumber) (fun _ => F_BadNumber) (fun _ => hr.mono (by omega)) (fun _ => B_BadNumber) (fun _ => by rfl) (fun _ => g_BadNumber) (DA.cons (DE.var fun _ => pv 0) (DA.cons (DE.var fun _ => pv 1) DA.nil))))) (fun _ _ _ _ => pss_one (ps_ret pe_bl)))
    (DSs.one (DS.ret DE.bl)))) fun ds Kd Kx n hl h => ?_
  obtain ⟨a, b, rfl, hk⟩ := h
  rw [s_body, s_seq, s_tryR, s_raise]
  exact ⟨rfl, true, xcd, fun _ => hk, fun h => by cases h⟩


abbrev CELLS (L : Nat) : List (Str × Addr) := cellsFrom (L + 1) (defScope s_law).names []

theorem ok_law {f : Addr} {fd : FuncData} (F : Fun K "law" "law" s_law f fd) (h__law_is_caught : DefG P w K mg base "_law_is_caught" ["a", "b"] (3) w_caught) (h__law_last_right : DefG P w K mg base "_law_last_right" ["a", "b", "c"] (3) w_right) (h__law_first_right : DefG P w K mg base "_law_first_right" ["a", "b", "c"] (3) w_right) (h__law_values : DefG P w K mg base "_law_values" ["pen"] (3) w__law_values) (h__law_pen : DefG P w K mg base "_law_pen" ["script"] (1) (w__law_pen K)) : FnG P w K mg base 4 f fd ["script"] (spD 1 (w_law K)) := by
  obtain ⟨f__law_is_caught, d__law_is_caught, G__law_is_caught, n__law_is_caught, q__law_is_caught, b__law_is_caught⟩ := h__law_is_caught.ex
  obtain ⟨f__law_last_right, d__law_last_right, G__law_last_right, n__law_last_right, q__law_last_right, b__law_last_right⟩ := h__law_last_right.ex
  obtain ⟨f__law_first_right, d__law_first_right, G__law_first_right, n__law_first_right, q__law_first_right, b__law_first_right⟩ := h__law_first_right.ex
  obtain ⟨f__law_values, d__law_values, G__law_values, n__law_values, q__law_values, b__law_values⟩ := h__law_values.ex
  obtain ⟨f__law_pen, d__law_pen, G__law_pen, n__law_pen, q__law_pen, b__law_pen⟩ := h__law_pen.ex
  refine fn_okL (k := 3) F sc_law (fun cdv hcd A outer s H E L hL hg hr => (DSs.cons (DS.set (k := 1) (fun _ => sc_law.nd) (fun _ => rfl) (fun _ => (.inl rfl)) (DE.call (fun _ => G__law_pen) (fun _ => hg) (fun _ => hr.mono (by omega)) (fun _ => takes_of rfl rfl rfl rfl) (fun _ => by rfl) (fun _ => n__law_pen) (fun _ => q__law_pen) (fun _ => b__law_pen) (DA.cons (DE.var fun _ => pv 0) DA.nil)))
    (DSs.cons (DS.asg (DE.call (fun _ => G__law_values) (fun _ => hg) (fun _ => hr.mono (by omega)) (fun _ => takes_of rfl rfl rfl rfl) (fun _ => by rfl) (fun _ => n__law_values) (fun _ => q__law_values) (fun _ => b__law_values) (DA.cons (DE.var fun _ => pv 1) DA.nil)) (DG.lst (m := 3) (fun _ => rfl) (fun _ => rfl) (DGs.cons (DG.name (k := 2) (fun _ => pg_name sc_law.nd rfl (.inl rfl))) (DGs.cons (DG.name (k := 3) (fun _ => pg_name sc_law.nd rfl (.inl rfl))) (DGs.cons (DG.name (k := 4) (fun _ => pg_name sc_law.nd rfl (.inl rfl))) DGs.nil)))))
    (DSs.one (DS.ret (DE.and (DE.call (fun _ => G__law_first_right) (fun _ => hg) (fun _ => hr.mono (by omega)) (fun _ => takes_of rfl rfl rfl rfl) (fun _ => by rfl) (fun _ => n__law_first_right) (fun _ => q__law_first_right) (fun _ => b__law_first_right) (DA.cons (DE.var fun _ => pv 2) (DA.cons (DE.var fun _ => pv 3) (DA.cons (DE.var fun _ => pv 4) DA.nil)))) (DE.and (DE.call (fun _ => G__law_last_right) (fun _ => hg) (fun _ => hr.mono (by omega)) (fun _ => takes_of rfl rfl rfl rfl) (fun _ => by rfl) (fun _ => n__law_last_right) (fun _ => q__law_last_right) (fun _ => b__law_last_right) (DA.cons (DE.var fun _ => pv 2) (DA.cons (DE.var fun _ => pv 3) (DA.cons (DE.var fun _ => pv 4) DA.nil)))) (DE.one (DE.call (fun _ => G__law_is_caught) (fun _ => hg) (fun _ => hr.mono (by omega)) (fun _ => takes_of rfl rfl rfl rfl) (fun _ => by rfl) (fun _ => n__law_is_caught) (fun _ => q__law_is_caught) (fun _ => b__law_is_caught) (DA.cons (DE.var fun _ => pv 2) (DA.cons (DE.var fun _ => pv 3) DA.nil))))))))))) fun L ds Kd Kx n hl h => ?_
  obtain ⟨ns, tabs, rfl, hlen, rfl, hk⟩ := h
  simp only [g_tup2, g_tup3, fNotN_at, fIsN_at, List.getElem?_cons_succ, List.getElem?_cons_zero, s_par3, s_lc, fCut_at, fAdd_lst, fAdd_tup, fList_lst, fList_tup, fTuple_lst, fMul_lst, items_lst, items_tup, range2_at, zip_at, s_body, s_seq, s_next, s_onE, s_onT, s_asg, s_par, s_for, s_raise, s_try, s_asgG, w_bind, w_pure, w_need, w_fail, w_calm, g_0, g_s, fEq_int, fNe_int, fEq_str, fNe_str, fInt_at, fInt0_at, fAdd_int, fCmp_at, fNeg_at, fLen_tup, fLen_lst, fIx_t0, fIx_l0, fIx_t1, fIx_l1, fIntC_at, fAbs_at, fGcd_at, fRepr_at, fBits_at, fIs_at, range_at, List.map_cons, List.map_nil, List.length_cons, List.length_nil, List.cons_append, List.nil_append, List.set_cons_zero, List.set_cons_succ, List.replicate, Nat.reduceAdd, Nat.reduceSub, List.append_nil, dName, true_and, and_true, Nat.zero_add, Nat.sub_self]
  refine ⟨⟨rfl, hlen⟩, rfl, by decide, fun a ha b hb c hc => ?_⟩
  simp only [g_lst3, dgCons, dgNil, dName, List.length_cons, List.length_nil, Nat.zero_add, Nat.reduceAdd, if_true, Option.bind_some, List.set_cons_zero, List.set_cons_succ]
  simp only [g_tup2, g_tup3, fNotN_at, fIsN_at, List.getElem?_cons_succ, List.getElem?_cons_zero, s_par3, s_lc, fCut_at, fAdd_lst, fAdd_tup, fList_lst, fList_tup, fTuple_lst, fMul_lst, items_lst, items_tup, range2_at, zip_at, s_body, s_seq, s_next, s_onE, s_onT, s_asg, s_par, s_for, s_raise, s_try, s_asgG, w_bind, w_pure, w_need, w_fail, w_calm, g_0, g_s, fEq_int, fNe_int, fEq_str, fNe_str, fInt_at, fInt0_at, fAdd_int, fCmp_at, fNeg_at, fLen_tup, fLen_lst, fIx_t0, fIx_l0, fIx_t1, fIx_l1, fIntC_at, fAbs_at, fGcd_at, fRepr_at, fBits_at, fIs_at, range_at, List.map_cons, List.map_nil, List.length_cons, List.length_nil, List.cons_append, List.nil_append, List.set_cons_zero, List.set_cons_succ, List.replicate, Nat.reduceAdd, Nat.reduceSub, List.append_nil, dName, true_and, and_true, Nat.zero_add, Nat.sub_self]
  refine ⟨a, b, c, rfl, ha, hb, hc, ?_⟩
  try simp only [g_tup2, g_tup3, fNotN_at, fIsN_at, List.getElem?_cons_succ, List.getElem?_cons_zero, s_par3, s_lc, fCut_at, fAdd_lst, fAdd_tup, fList_lst, fList_tup, fTuple_lst, fMul_lst, items_lst, items_tup, range2_at, zip_at, s_body, s_seq, s_next, s_onE, s_onT, s_asg, s_par, s_for, s_raise, s_try, s_asgG, w_bind, w_pure, w_need, w_fail, w_calm, g_0, g_s, fEq_int, fNe_int, fEq_str, fNe_str, fInt_at, fInt0_at, fAdd_int, fCmp_at, fNeg_at, fLen_tup, fLen_lst, fIx_t0, fIx_l0, fIx_t1, fIx_l1, fIntC_at, fAbs_at, fGcd_at, fRepr_at, fBits_at, fIs_at, range_at, List.map_cons, List.map_nil, List.length_cons, List.length_nil, List.cons_append, List.nil_append, List.set_cons_zero, List.set_cons_succ, List.replicate, Nat.reduceAdd, Nat.reduceSub, List.append_nil, dName, true_and, and_true, Nat.zero_add, Nat.sub_self]
  refine ⟨a, b, c, rfl, ha, hb, hc, ?_⟩
  try simp only [g_tup2, g_tup3, fNotN_at, fIsN_at, List.getElem?_cons_succ, List.getElem?_cons_zero, s_par3, s_lc, fCut_at, fAdd_lst, fAdd_tup, fList_lst, fList_tup, fTuple_lst, fMul_lst, items_lst, items_tup, range2_at, zip_at, s_body, s_seq, s_next, s_onE, s_onT, s_asg, s_par, s_for, s_raise, s_try, s_asgG, w_bind, w_pure, w_need, w_fail, w_calm, g_0, g_s, fEq_int, fNe_int, fEq_str, fNe_str, fInt_at, fInt0_at, fAdd_int, fCmp_at, fNeg_at, fLen_tup, fLen_lst, fIx_t0, fIx_l0, fIx_t1, fIx_l1, fIntC_at, fAbs_at, fGcd_at, fRepr_at, fBits_at, fIs_at, range_at, List.map_cons, List.map_nil, List.length_cons, List.length_nil, List.cons_append, List.nil_append, List.set_cons_zero, List.set_cons_succ, List.replicate, Nat.reduceAdd, Nat.reduceSub, List.append_nil, dName, true_and, and_true, Nat.zero_add, Nat.sub_self]
  exact ⟨a, b, rfl, hk _⟩
theorem all_ok (F__law_pen : DefF K mg "_law_pen" s__law_pen ["script"]) (F__law_draw : DefF K mg "_law_draw" s__law_draw ["pen", "many"]) (F__law_pick : DefF K mg "_law_pick" s__law_pick ["pen", "some"]) (F__law_values : DefF K mg "_law_values" s__law_values ["pen"]) (F__law_kinds_of : DefF K mg "_law_kinds_of" s__law_kinds_of ["fault"]) (F__law_alone : DefF K mg "_law_alone" s__law_alone ["name", "fault", "due", "found"]) (F__law_first_right : DefF K mg "_law_first_right" s__law_first_right ["a", "b", "c"]) (F__law_last_right : DefF K mg "_law_last_right" s__law_last_right ["a", "b", "c"]) (F__law_is_caught : DefF K mg "_law_is_caught" s__law_is_caught ["a", "b"]) (m_int : mg "int" = none) (m_list : mg "list" = none) (m_len : mg "len" = none) (m_range : mg "range" = none) (mC_NothingToRedo : mg "NothingToRedo" = some (.ref C_NothingToRedo)) (m_isinstance : mg "isinstance" = none) (mC_NothingToUndo : mg "NothingToUndo" = some (.ref C_NothingToUndo)) (mC_TakenName : mg "TakenName" = some (.ref C_TakenName)) (mC_NoName : mg "NoName" = some (.ref C_NoName)) (mC_BadName : mg "BadName" = some (.ref C_BadName)) (mC_TooMany : mg "TooMany" = some (.ref C_TooMany)) (mC_Unlike : mg "Unlike" = some (.ref C_Unlike)) (mC_BadPaper : mg "BadPaper" = some (.ref C_BadPaper)) (mC_BadTable : mg "BadTable" = some (.ref C_BadTable)) (mC_BadRow : mg "BadRow" = some (.ref C_BadRow)) (mC_BadTower : mg "BadTower" = some (.ref C_BadTower)) (mC_BadPoly : mg "BadPoly" = some (.ref C_BadPoly)) (mC_BadText : mg "BadText" = some (.ref C_BadText)) (mC_BadNumber : mg "BadNumber" = some (.ref C_BadNumber)) (isk : kindsB K C_DrawError (KINDS C_BadNumber C_BadText C_BadPoly C_BadTower C_BadRow C_BadTable C_BadPaper C_Unlike C_TooMany C_BadName C_NoName C_TakenName C_NothingToUndo C_NothingToRedo) = true) (m_repr : mg "repr" = none) (mC_DrawError : mg "DrawError" = some (.ref C_DrawError)) (m_all : mg "all" = none) (v_BadPaper : ErrV P w K mg base "BadPaper" C_BadPaper fs_BadPaper 1) (v_BadTable : ErrV P w K mg base "BadTable" C_BadTable fs_BadTable 1) (v_BadRow : ErrV P w K mg base "BadRow" C_BadRow fs_BadRow 1) (v_BadTower : ErrV P w K mg base "BadTower" C_BadTower fs_BadTower 1) (v_BadPoly : ErrV P w K mg base "BadPoly" C_BadPoly fs_BadPoly 1) (v_BadText : ErrV P w K mg base "BadText" C_BadText fs_BadText 1) (v_BadNumber : ErrV P w K mg base "BadNumber" C_BadNumber fs_BadNumber 1) (att : attB K [(C_BadNumber, fs_BadNumber), (C_BadText, fs_BadText), (C_BadPoly, fs_BadPoly), (C_BadTower, fs_BadTower), (C_BadRow, fs_BadRow), (C_BadTable, fs_BadTable), (C_BadPaper, fs_BadPaper), (C_Unlike, fs_Unlike), (C_TooMany, fs_TooMany), (C_BadName, fs_BadName), (C_NoName, fs_NoName), (C_TakenName, fs_TakenName)] = true) (v_NothingToRedo : Err0 P w K mg base "NothingToRedo" C_NothingToRedo 1) (v_NothingToUndo : Err0 P w K mg base "NothingToUndo" C_NothingToUndo 1) (v_TakenName : ErrV P w K mg base "TakenName" C_TakenName fs_TakenName 1) (v_NoName : ErrV P w K mg base "NoName" C_NoName fs_NoName 1) (v_BadName : ErrV P w K mg base "BadName" C_BadName fs_BadName 1) (v_TooMany : ErrV P w K mg base "TooMany" C_TooMany fs_TooMany 1) (v_Unlike : ErrV P w K mg base "Unlike" C_Unlike fs_Unlike 1) (xcd : PySem.W.exmOne K (.ref C_BadNumber) (.ref C_DrawError) = some true) {f : Addr} {fd : FuncData} (F_law : Fun K "law" "law" s_law f fd) : FnG P w K mg base 4 f fd ["script"] (spD 1 (w_law K)) := by
  have h__law_pen := ok__law_pen (P := P) (w := w) (base := base) (F := F__law_pen) (m_int := m_int) (m_list := m_list)
  have h__law_draw := ok__law_draw (P := P) (w := w) (base := base) (F := F__law_draw) (m_len := m_len) (m_int := m_int)
  have h__law_pick := ok__law_pick (P := P) (w := w) (base := base) (F := F__law_pick) (h__law_draw := h__law_draw) (m_len := m_len)
  have h__law_values := ok__law_values (P := P) (w := w) (base := base) (F := F__law_values) (m_range := m_range) (h__law_pick := h__law_pick)
  have h__law_kinds_of := ok__law_kinds_of (P := P) (w := w) (base := base) (F := F__law_kinds_of) (mC_NothingToRedo := mC_NothingToRedo) (m_isinstance := m_isinstance) (mC_NothingToUndo := mC_NothingToUndo) (mC_TakenName := mC_TakenName) (mC_NoName := mC_NoName) (mC_BadName := mC_BadName) (mC_TooMany := mC_TooMany) (mC_Unlike := mC_Unlike) (mC_BadPaper := mC_BadPaper) (mC_BadTable := mC_BadTable) (mC_BadRow := mC_BadRow) (mC_BadTower := mC_BadTower) (mC_BadPoly := mC_BadPoly) (mC_BadText := mC_BadText) (mC_BadNumber := mC_BadNumber) (isk := isk)
  have h__law_alone := ok__law_alone (P := P) (w := w) (base := base) (F := F__law_alone) (m_repr := m_repr) (h__law_kinds_of := h__law_kinds_of) (mC_DrawError := mC_DrawError) (m_isinstance := m_isinstance) (isk := isk)
  have h__law_first_right := ok__law_first_right (P := P) (w := w) (base := base) (F := F__law_first_right) (m_all := m_all) (h__law_alone := h__law_alone) (v_BadPaper := v_BadPaper) (v_BadTable := v_BadTable) (v_BadRow := v_BadRow) (v_BadTower := v_BadTower) (v_BadPoly := v_BadPoly) (v_BadText := v_BadText) (v_BadNumber := v_BadNumber) (att := att)
  have h__law_last_right := ok__law_last_right (P := P) (w := w) (base := base) (F := F__law_last_right) (m_all := m_all) (h__law_alone := h__law_alone) (v_NothingToRedo := v_NothingToRedo) (v_NothingToUndo := v_NothingToUndo) (v_TakenName := v_TakenName) (v_NoName := v_NoName) (v_BadName := v_BadName) (v_TooMany := v_TooMany) (v_Unlike := v_Unlike) (att := att)
  have h__law_is_caught := ok__law_is_caught (P := P) (w := w) (base := base) (F := F__law_is_caught) (mC_DrawError := mC_DrawError) (v_BadNumber := v_BadNumber) (xcd := xcd)
  exact ok_law (F := F_law) (h__law_is_caught := h__law_is_caught) (h__law_last_right := h__law_last_right) (h__law_first_right := h__law_first_right) (h__law_values := h__law_values) (h__law_pen := h__law_pen)
abbrev si_BadPaper : Stmt := clsDef 0 (topS 8)
theorem sci_BadPaper : FnScope ["self", "value"] ["self", "value"] (defScope si_BadPaper) := ⟨rfl, rfl, rfl, by decide +kernel, rfl, by decide +kernel, by decide +kernel⟩
abbrev si_BadTable : Stmt := clsDef 0 (topS 7)
theorem sci_BadTable : FnScope ["self", "table"] ["self", "table"] (defScope si_BadTable) := ⟨rfl, rfl, rfl, by decide +kernel, rfl, by decide +kernel, by decide +kernel⟩
abbrev si_BadRow : Stmt := clsDef 0 (topS 6)
theorem sci_BadRow : FnScope ["self", "row"] ["self", "row"] (defScope si_BadRow) := ⟨rfl, rfl, rfl, by decide +kernel, rfl, by decide +kernel, by decide +kernel⟩
abbrev si_BadTower : Stmt := clsDef 0 (topS 5)
theorem sci_BadTower : FnScope ["self", "what", "value"] ["self", "what", "value"] (defScope si_BadTower) := ⟨rfl, rfl, rfl, by decide +kernel, rfl, by decide +kernel, by decide +kernel⟩
abbrev si_BadPoly : Stmt := clsDef 0 (topS 4)
theorem sci_BadPoly : FnScope ["self", "value"] ["self", "value"] (defScope si_BadPoly) := ⟨rfl, rfl, rfl, by decide +kernel, rfl, by decide +kernel, by decide +kernel⟩
abbrev si_BadText : Stmt := clsDef 0 (topS 3)
theorem sci_BadText : FnScope ["self", "line", "column"] ["self", "line", "column"] (defScope si_BadText) := ⟨rfl, rfl, rfl, by decide +kernel, rfl, by decide +kernel, by decide +kernel⟩
abbrev si_BadNumber : Stmt := clsDef 0 (topS 2)
theorem sci_BadNumber : FnScope ["self", "what", "number"] ["self", "what", "number"] (defScope si_BadNumber) := ⟨rfl, rfl, rfl, by decide +kernel, rfl, by decide +kernel, by decide +kernel⟩
abbrev si_NothingToRedo : Stmt := clsDef 0 (topS 15)
theorem sci_NothingToRedo : FnScope ["self"] ["self"] (defScope si_NothingToRedo) := ⟨rfl, rfl, rfl, by decide +kernel, rfl, by decide +kernel, by decide +kernel⟩
abbrev si_NothingToUndo : Stmt := clsDef 0 (topS 14)
theorem sci_NothingToUndo : FnScope ["self"] ["self"] (defScope si_NothingToUndo) := ⟨rfl, rfl, rfl, by decide +kernel, rfl, by decide +kernel, by decide +kernel⟩
abbrev si_TakenName : Stmt := clsDef 0 (topS 13)
theorem sci_TakenName : FnScope ["self", "name"] ["self", "name"] (defScope si_TakenName) := ⟨rfl, rfl, rfl, by decide +kernel, rfl, by decide +kernel, by decide +kernel⟩
abbrev si_NoName : Stmt := clsDef 0 (topS 12)
theorem sci_NoName : FnScope ["self", "name"] ["self", "name"] (defScope si_NoName) := ⟨rfl, rfl, rfl, by decide +kernel, rfl, by decide +kernel, by decide +kernel⟩
abbrev si_BadName : Stmt := clsDef 0 (topS 11)
theorem sci_BadName : FnScope ["self", "name"] ["self", "name"] (defScope si_BadName) := ⟨rfl, rfl, rfl, by decide +kernel, rfl, by decide +kernel, by decide +kernel⟩
abbrev si_TooMany : Stmt := clsDef 0 (topS 10)
theorem sci_TooMany : FnScope ["self", "what", "many", "limit"] ["self", "what", "many", "limit"] (defScope si_TooMany) := ⟨rfl, rfl, rfl, by decide +kernel, rfl, by decide +kernel, by decide +kernel⟩
abbrev si_Unlike : Stmt := clsDef 0 (topS 9)
theorem sci_Unlike : FnScope ["self", "what"] ["self", "what"] (defScope si_Unlike) := ⟨rfl, rfl, rfl, by decide +kernel, rfl, by decide +kernel, by decide +kernel⟩
theorem end_mk {l : PySem.W.OpenLaw} {h : Heap} {fa : Addr} (X : K.In h) (G : h.Ns mainGlobals mg) (hfa : mg "law" = some (.ref fa)) {f__law_pen : Addr} {oc__law_pen kV__law_pen dc__law_pen pm__law_pen cd__law_pen ct__law_pen : Value} {od__law_pen an__law_pen : Option Addr} {sl__law_pen : Array (Option Value)} (a__law_pen : PySem.W.nsIn K mainGlobals "_law_pen" = some (some (.ref f__law_pen))) (l__law_pen : K.lookup f__law_pen = some ⟨oc__law_pen, od__law_pen, .func (PySem.W.fnOf "_law_pen" "_law_pen" (defArgs s__law_pen) (defBody s__law_pen) (defScope s__law_pen) .none kV__law_pen dc__law_pen pm__law_pen an__law_pen cd__law_pen ct__law_pen), sl__law_pen⟩) (c__law_pen : PySem.W.codeIn K cd__law_pen "_law_pen" = true) (k__law_pen : PySem.W.keepIn K (.ref f__law_pen) = true) {f__law_draw : Addr} {oc__law_draw kV__law_draw dc__law_draw pm__law_draw cd__law_draw ct__law_draw : Value} {od__law_draw an__law_draw : Option Addr} {sl__law_draw : Array (Option Value)} (a__law_draw : PySem.W.nsIn K mainGlobals "_law_draw" = some (some (.ref f__law_draw))) (l__law_draw : K.lookup f__law_draw = some ⟨oc__law_draw, od__law_draw, .func (PySem.W.fnOf "_law_draw" "_law_draw" (defArgs s__law_draw) (defBody s__law_draw) (defScope s__law_draw) .none kV__law_draw dc__law_draw pm__law_draw an__law_draw cd__law_draw ct__law_draw), sl__law_draw⟩) (c__law_draw : PySem.W.codeIn K cd__law_draw "_law_draw" = true) (k__law_draw : PySem.W.keepIn K (.ref f__law_draw) = true) {f__law_pick : Addr} {oc__law_pick kV__law_pick dc__law_pick pm__law_pick cd__law_pick ct__law_pick : Value} {od__law_pick an__law_pick : Option Addr} {sl__law_pick : Array (Option Value)} (a__law_pick : PySem.W.nsIn K mainGlobals "_law_pick" = some (some (.ref f__law_pick))) (l__law_pick : K.lookup f__law_pick = some ⟨oc__law_pick, od__law_pick, .func (PySem.W.fnOf "_law_pick" "_law_pick" (defArgs s__law_pick) (defBody s__law_pick) (defScope s__law_pick) .none kV__law_pick dc__law_pick pm__law_pick an__law_pick cd__law_pick ct__law_pick), sl__law_pick⟩) (c__law_pick : PySem.W.codeIn K cd__law_pick "_law_pick" = true) (k__law_pick : PySem.W.keepIn K (.ref f__law_pick) = true) {f__law_values : Addr} {oc__law_values kV__law_values dc__law_values pm__law_values cd__law_values ct__law_values : Value} {od__law_values an__law_values : Option Addr} {sl__law_values : Array (Option Value)} (a__law_values : PySem.W.nsIn K mainGlobals "_law_values" = some (some (.ref f__law_values))) (l__law_values : K.lookup f__law_values = some ⟨oc__law_values, od__law_values, .func (PySem.W.fnOf "_law_values" "_law_values" (defArgs s__law_values) (defBody s__law_values) (defScope s__law_values) .none kV__law_values dc__law_values pm__law_values an__law_values cd__law_values ct__law_values), sl__law_values⟩) (c__law_values : PySem.W.codeIn K cd__law_values "_law_values" = true) (k__law_values : PySem.W.keepIn K (.ref f__law_values) = true) {f__law_kinds_of : Addr} {oc__law_kinds_of kV__law_kinds_of dc__law_kinds_of pm__law_kinds_of cd__law_kinds_of ct__law_kinds_of : Value} {od__law_kinds_of an__law_kinds_of : Option Addr} {sl__law_kinds_of : Array (Option Value)} (a__law_kinds_of : PySem.W.nsIn K mainGlobals "_law_kinds_of" = some (some (.ref f__law_kinds_of))) (l__law_kinds_of : K.lookup f__law_kinds_of = some ⟨oc__law_kinds_of, od__law_kinds_of, .func (PySem.W.fnOf "_law_kinds_of" "_law_kinds_of" (defArgs s__law_kinds_of) (defBody s__law_kinds_of) (defScope s__law_kinds_of) .none kV__law_kinds_of dc__law_kinds_of pm__law_kinds_of an__law_kinds_of cd__law_kinds_of ct__law_kinds_of), sl__law_kinds_of⟩) (c__law_kinds_of : PySem.W.codeIn K cd__law_kinds_of "_law_kinds_of" = true) (k__law_kinds_of : PySem.W.keepIn K (.ref f__law_kinds_of) = true) {f__law_alone : Addr} {oc__law_alone kV__law_alone dc__law_alone pm__law_alone cd__law_alone ct__law_alone : Value} {od__law_alone an__law_alone : Option Addr} {sl__law_alone : Array (Option Value)} (a__law_alone : PySem.W.nsIn K mainGlobals "_law_alone" = some (some (.ref f__law_alone))) (l__law_alone : K.lookup f__law_alone = some ⟨oc__law_alone, od__law_alone, .func (PySem.W.fnOf "_law_alone" "_law_alone" (defArgs s__law_alone) (defBody s__law_alone) (defScope s__law_alone) .none kV__law_alone dc__law_alone pm__law_alone an__law_alone cd__law_alone ct__law_alone), sl__law_alone⟩) (c__law_alone : PySem.W.codeIn K cd__law_alone "_law_alone" = true) (k__law_alone : PySem.W.keepIn K (.ref f__law_alone) = true) {f__law_first_right : Addr} {oc__law_first_right kV__law_first_right dc__law_first_right pm__law_first_right cd__law_first_right ct__law_first_right : Value} {od__law_first_right an__law_first_right : Option Addr} {sl__law_first_right : Array (Option Value)} (a__law_first_right : PySem.W.nsIn K mainGlobals "_law_first_right" = some (some (.ref f__law_first_right))) (l__law_first_right : K.lookup f__law_first_right = some ⟨oc__law_first_right, od__law_first_right, .func (PySem.W.fnOf "_law_first_right" "_law_first_right" (defArgs s__law_first_right) (defBody s__law_first_right) (defScope s__law_first_right) .none kV__law_first_right dc__law_first_right pm__law_first_right an__law_first_right cd__law_first_right ct__law_first_right), sl__law_first_right⟩) (c__law_first_right : PySem.W.codeIn K cd__law_first_right "_law_first_right" = true) (k__law_first_right : PySem.W.keepIn K (.ref f__law_first_right) = true) {f__law_last_right : Addr} {oc__law_last_right kV__law_last_right dc__law_last_right pm__law_last_right cd__law_last_right ct__law_last_right : Value} {od__law_last_right an__law_last_right : Option Addr} {sl__law_last_right : Array (Option Value)} (a__law_last_right : PySem.W.nsIn K mainGlobals "_law_last_right" = some (some (.ref f__law_last_right))) (l__law_last_right : K.lookup f__law_last_right = some ⟨oc__law_last_right, od__law_last_right, .func (PySem.W.fnOf "_law_last_right" "_law_last_right" (defArgs s__law_last_right) (defBody s__law_last_right) (defScope s__law_last_right) .none kV__law_last_right dc__law_last_right pm__law_last_right an__law_last_right cd__law_last_right ct__law_last_right), sl__law_last_right⟩) (c__law_last_right : PySem.W.codeIn K cd__law_last_right "_law_last_right" = true) (k__law_last_right : PySem.W.keepIn K (.ref f__law_last_right) = true) {f__law_is_caught : Addr} {oc__law_is_caught kV__law_is_caught dc__law_is_caught pm__law_is_caught cd__law_is_caught ct__law_is_caught : Value} {od__law_is_caught an__law_is_caught : Option Addr} {sl__law_is_caught : Array (Option Value)} (a__law_is_caught : PySem.W.nsIn K mainGlobals "_law_is_caught" = some (some (.ref f__law_is_caught))) (l__law_is_caught : K.lookup f__law_is_caught = some ⟨oc__law_is_caught, od__law_is_caught, .func (PySem.W.fnOf "_law_is_caught" "_law_is_caught" (defArgs s__law_is_caught) (defBody s__law_is_caught) (defScope s__law_is_caught) .none kV__law_is_caught dc__law_is_caught pm__law_is_caught an__law_is_caught cd__law_is_caught ct__law_is_caught), sl__law_is_caught⟩) (c__law_is_caught : PySem.W.codeIn K cd__law_is_caught "_law_is_caught" = true) (k__law_is_caught : PySem.W.keepIn K (.ref f__law_is_caught) = true) {C_NothingToRedo : Addr} (aC_NothingToRedo : PySem.W.nsIn K mainGlobals "NothingToRedo" = some (some (.ref C_NothingToRedo))) {C_NothingToUndo : Addr} (aC_NothingToUndo : PySem.W.nsIn K mainGlobals "NothingToUndo" = some (some (.ref C_NothingToUndo))) {C_TakenName : Addr} (aC_TakenName : PySem.W.nsIn K mainGlobals "TakenName" = some (some (.ref C_TakenName))) {C_NoName : Addr} (aC_NoName : PySem.W.nsIn K mainGlobals "NoName" = some (some (.ref C_NoName))) {C_BadName : Addr} (aC_BadName : PySem.W.nsIn K mainGlobals "BadName" = some (some (.ref C_BadName))) {C_TooMany : Addr} (aC_TooMany : PySem.W.nsIn K mainGlobals "TooMany" = some (some (.ref C_TooMany))) {C_Unlike : Addr} (aC_Unlike : PySem.W.nsIn K mainGlobals "Unlike" = some (some (.ref C_Unlike))) {C_BadPaper : Addr} (aC_BadPaper : PySem.W.nsIn K mainGlobals "BadPaper" = some (some (.ref C_BadPaper))) {C_BadTable : Addr} (aC_BadTable : PySem.W.nsIn K mainGlobals "BadTable" = some (some (.ref C_BadTable))) {C_BadRow : Addr} (aC_BadRow : PySem.W.nsIn K mainGlobals "BadRow" = some (some (.ref C_BadRow))) {C_BadTower : Addr} (aC_BadTower : PySem.W.nsIn K mainGlobals "BadTower" = some (some (.ref C_BadTower))) {C_BadPoly : Addr} (aC_BadPoly : PySem.W.nsIn K mainGlobals "BadPoly" = some (some (.ref C_BadPoly))) {C_BadText : Addr} (aC_BadText : PySem.W.nsIn K mainGlobals "BadText" = some (some (.ref C_BadText))) {C_BadNumber : Addr} (aC_BadNumber : PySem.W.nsIn K mainGlobals "BadNumber" = some (some (.ref C_BadNumber))) {C_DrawError : Addr} (aC_DrawError : PySem.W.nsIn K mainGlobals "DrawError" = some (some (.ref C_DrawError))) (aD : PySem.W.nsIn K mainGlobals "DrawError" = some (some (.ref C_DrawError))) (bd1 : PySem.W.specialIn K (.ref C_DrawError) "__getattribute__" = some (some (.builtin "type.__getattribute__"))) (bd2 : PySem.W.typeIn K (.ref C_DrawError) = some (.type "type")) (bd3 : PySem.W.readsIn K C_DrawError (.type "type") = true) (bd4 : PySem.W.findCls K (.ref C_DrawError) (.type "type") "__init__" = some (.val (.builtin "ValueError.__init__"))) {f_BadPaper : Addr} {oc_BadPaper kV_BadPaper dc_BadPaper pm_BadPaper cd_BadPaper ct_BadPaper : Value} {od_BadPaper an_BadPaper : Option Addr} {sl_BadPaper : Array (Option Value)} {nm_BadPaper q_BadPaper : Str} {N_BadPaper : Addr} {bs_BadPaper bm_BadPaper sub_BadPaper : List Value} {sn_BadPaper : List Str} {ab_BadPaper : Bool} {col_BadPaper : Option Bool} {dd_BadPaper : Option Addr} {m0_BadPaper m1_BadPaper m2_BadPaper m3_BadPaper m5_BadPaper : Option Value} (xL_BadPaper : K.lookup C_BadPaper = some (excClassObj nm_BadPaper q_BadPaper C_BadPaper N_BadPaper bs_BadPaper bm_BadPaper true sn_BadPaper sub_BadPaper ab_BadPaper col_BadPaper dd_BadPaper m0_BadPaper m1_BadPaper m2_BadPaper m3_BadPaper m5_BadPaper "ValueError.__new__")) (rv_BadPaper : PySem.HandSPX.refsVE bm_BadPaper = true) (sa_BadPaper : PySem.W.findIn K (.ref C_BadPaper) "__setattr__" = some (some (.builtin "object.__setattr__"))) (eC_BadPaper : PySem.W.subIn K (.ref C_BadPaper) (.type "BaseException") = some true) (tC_BadPaper : PySem.W.typeIn K (.ref C_BadPaper) = some (.type "type")) (kC_BadPaper : PySem.W.keepIn K (.ref C_BadPaper) = true) (iC_BadPaper : PySem.W.findIn K (.ref C_BadPaper) "__init__" = some (some (.ref f_BadPaper))) (tI_BadPaper : PySem.W.typeIn K (.ref f_BadPaper) = some (.type "function")) (l_BadPaper : K.lookup f_BadPaper = some ⟨oc_BadPaper, od_BadPaper, .func (PySem.W.fnOf "__init__" "BadPaper.__init__" (defArgs si_BadPaper) (defBody si_BadPaper) (defScope si_BadPaper) .none kV_BadPaper dc_BadPaper pm_BadPaper an_BadPaper cd_BadPaper ct_BadPaper), sl_BadPaper⟩) (c_BadPaper : PySem.W.codeIn K cd_BadPaper "BadPaper.__init__" = true) (k_BadPaper : PySem.W.keepIn K (.ref f_BadPaper) = true) (nof_BadPaper : fs_BadPaper.all (fun y => decide (PySem.W.findIn K (.ref C_BadPaper) y = some none)) = true) {f_BadTable : Addr} {oc_BadTable kV_BadTable dc_BadTable pm_BadTable cd_BadTable ct_BadTable : Value} {od_BadTable an_BadTable : Option Addr} {sl_BadTable : Array (Option Value)} {nm_BadTable q_BadTable : Str} {N_BadTable : Addr} {bs_BadTable bm_BadTable sub_BadTable : List Value} {sn_BadTable : List Str} {ab_BadTable : Bool} {col_BadTable : Option Bool} {dd_BadTable : Option Addr} {m0_BadTable m1_BadTable m2_BadTable m3_BadTable m5_BadTable : Option Value} (xL_BadTable : K.lookup C_BadTable = some (excClassObj nm_BadTable q_BadTable C_BadTable N_BadTable bs_BadTable bm_BadTable true sn_BadTable sub_BadTable ab_BadTable col_BadTable dd_BadTable m0_BadTable m1_BadTable m2_BadTable m3_BadTable m5_BadTable "ValueError.__new__")) (rv_BadTable : PySem.HandSPX.refsVE bm_BadTable = true) (sa_BadTable : PySem.W.findIn K (.ref C_BadTable) "__setattr__" = some (some (.builtin "object.__setattr__"))) (eC_BadTable : PySem.W.subIn K (.ref C_BadTable) (.type "BaseException") = some true) (tC_BadTable : PySem.W.typeIn K (.ref C_BadTable) = some (.type "type")) (kC_BadTable : PySem.W.keepIn K (.ref C_BadTable) = true) (iC_BadTable : PySem.W.findIn K (.ref C_BadTable) "__init__" = some (some (.ref f_BadTable))) (tI_BadTable : PySem.W.typeIn K (.ref f_BadTable) = some (.type "function")) (l_BadTable : K.lookup f_BadTable = some ⟨oc_BadTable, od_BadTable, .func (PySem.W.fnOf "__init__" "BadTable.__init__" (defArgs si_BadTable) (defBody si_BadTable) (defScope si_BadTable) .none kV_BadTable dc_BadTable pm_BadTable an_BadTable cd_BadTable ct_BadTable), sl_BadTable⟩) (c_BadTable : PySem.W.codeIn K cd_BadTable "BadTable.__init__" = true) (k_BadTable : PySem.W.keepIn K (.ref f_BadTable) = true) (nof_BadTable : fs_BadTable.all (fun y => decide (PySem.W.findIn K (.ref C_BadTable) y = some none)) = true) {f_BadRow : Addr} {oc_BadRow kV_BadRow dc_BadRow pm_BadRow cd_BadRow ct_BadRow : Value} {od_BadRow an_BadRow : Option Addr} {sl_BadRow : Array (Option Value)} {nm_BadRow q_BadRow : Str} {N_BadRow : Addr} {bs_BadRow bm_BadRow sub_BadRow : List Value} {sn_BadRow : List Str} {ab_BadRow : Bool} {col_BadRow : Option Bool} {dd_BadRow : Option Addr} {m0_BadRow m1_BadRow m2_BadRow m3_BadRow m5_BadRow : Option Value} (xL_BadRow : K.lookup C_BadRow = some (excClassObj nm_BadRow q_BadRow C_BadRow N_BadRow bs_BadRow bm_BadRow true sn_BadRow sub_BadRow ab_BadRow col_BadRow dd_BadRow m0_BadRow m1_BadRow m2_BadRow m3_BadRow m5_BadRow "ValueError.__new__")) (rv_BadRow : PySem.HandSPX.refsVE bm_BadRow = true) (sa_BadRow : PySem.W.findIn K (.ref C_BadRow) "__setattr__" = some (some (.builtin "object.__setattr__"))) (eC_BadRow : PySem.W.subIn K (.ref C_BadRow) (.type "BaseException") = some true) (tC_BadRow : PySem.W.typeIn K (.ref C_BadRow) = some (.type "type")) (kC_BadRow : PySem.W.keepIn K (.ref C_BadRow) = true) (iC_BadRow : PySem.W.findIn K (.ref C_BadRow) "__init__" = some (some (.ref f_BadRow))) (tI_BadRow : PySem.W.typeIn K (.ref f_BadRow) = some (.type "function")) (l_BadRow : K.lookup f_BadRow = some ⟨oc_BadRow, od_BadRow, .func (PySem.W.fnOf "__init__" "BadRow.__init__" (defArgs si_BadRow) (defBody si_BadRow) (defScope si_BadRow) .none kV_BadRow dc_BadRow pm_BadRow an_BadRow cd_BadRow ct_BadRow), sl_BadRow⟩) (c_BadRow : PySem.W.codeIn K cd_BadRow "BadRow.__init__" = true) (k_BadRow : PySem.W.keepIn K (.ref f_BadRow) = true) (nof_BadRow : fs_BadRow.all (fun y => decide (PySem.W.findIn K (.ref C_BadRow) y = some none)) = true) {f_BadTower : Addr} {oc_BadTower kV_BadTower dc_BadTower pm_BadTower cd_BadTower ct_BadTower : Value} {od_BadTower an_BadTower : Option Addr} {sl_BadTower : Array (Option Value)} {nm_BadTower q_BadTower : Str} {N_BadTower : Addr} {bs_BadTower bm_BadTower sub_BadTower : List Value} {sn_BadTower : List Str} {ab_BadTower : Bool} {col_BadTower : Option Bool} {dd_BadTower : Option Addr} {m0_BadTower m1_BadTower m2_BadTower m3_BadTower m5_BadTower : Option Value} (xL_BadTower : K.lookup C_BadTower = some (excClassObj nm_BadTower q_BadTower C_BadTower N_BadTower bs_BadTower bm_BadTower true sn_BadTower sub_BadTower ab_BadTower col_BadTower dd_BadTower m0_BadTower m1_BadTower m2_BadTower m3_BadTower m5_BadTower "ValueError.__new__")) (rv_BadTower : PySem.HandSPX.refsVE bm_BadTower = true) (sa_BadTower : PySem.W.findIn K (.ref C_BadTower) "__setattr__" = some (some (.builtin "object.__setattr__"))) (eC_BadTower : PySem.W.subIn K (.ref C_BadTower) (.type "BaseException") = some true) (tC_BadTower : PySem.W.typeIn K (.ref C_BadTower) = some (.type "type")) (kC_BadTower : PySem.W.keepIn K (.ref C_BadTower) = true) (iC_BadTower : PySem.W.findIn K (.ref C_BadTower) "__init__" = some (some (.ref f_BadTower))) (tI_BadTower : PySem.W.typeIn K (.ref f_BadTower) = some (.type "function")) (l_BadTower : K.lookup f_BadTower = some ⟨oc_BadTower, od_BadTower, .func (PySem.W.fnOf "__init__" "BadTower.__init__" (defArgs si_BadTower) (defBody si_BadTower) (defScope si_BadTower) .none kV_BadTower dc_BadTower pm_BadTower an_BadTower cd_BadTower ct_BadTower), sl_BadTower⟩) (c_BadTower : PySem.W.codeIn K cd_BadTower "BadTower.__init__" = true) (k_BadTower : PySem.W.keepIn K (.ref f_BadTower) = true) (nof_BadTower : fs_BadTower.all (fun y => decide (PySem.W.findIn K (.ref C_BadTower) y = some none)) = true) {f_BadPoly : Addr} {oc_BadPoly kV_BadPoly dc_BadPoly pm_BadPoly cd_BadPoly ct_BadPoly : Value} {od_BadPoly an_BadPoly : Option Addr} {sl_BadPoly : Array (Option Value)} {nm_BadPoly q_BadPoly : Str} {N_BadPoly : Addr} {bs_BadPoly bm_BadPoly sub_BadPoly : List Value} {sn_BadPoly : List Str} {ab_BadPoly : Bool} {col_BadPoly : Option Bool} {dd_BadPoly : Option Addr} {m0_BadPoly m1_BadPoly m2_BadPoly m3_BadPoly m5_BadPoly : Option Value} (xL_BadPoly : K.lookup C_BadPoly = some (excClassObj nm_BadPoly q_BadPoly C_BadPoly N_BadPoly bs_BadPoly bm_BadPoly true sn_BadPoly sub_BadPoly ab_BadPoly col_BadPoly dd_BadPoly m0_BadPoly m1_BadPoly m2_BadPoly m3_BadPoly m5_BadPoly "ValueError.__new__")) (rv_BadPoly : PySem.HandSPX.refsVE bm_BadPoly = true) (sa_BadPoly : PySem.W.findIn K (.ref C_BadPoly) "__setattr__" = some (some (.builtin "object.__setattr__"))) (eC_BadPoly : PySem.W.subIn K (.ref C_BadPoly) (.type "BaseException") = some true) (tC_BadPoly : PySem.W.typeIn K (.ref C_BadPoly) = some (.type "type")) (kC_BadPoly : PySem.W.keepIn K (.ref C_BadPoly) = true) (iC_BadPoly : PySem.W.findIn K (.ref C_BadPoly) "__init__" = some (some (.ref f_BadPoly))) (tI_BadPoly : PySem.W.typeIn K (.ref f_BadPoly) = some (.type "function")) (l_BadPoly : K.lookup f_BadPoly = some ⟨oc_BadPoly, od_BadPoly, .func (PySem.W.fnOf "__init__" "BadPoly.__init__" (defArgs si_BadPoly) (defBody si_BadPoly) (defScope si_BadPoly) .none kV_BadPoly dc_BadPoly pm_BadPoly an_BadPoly cd_BadPoly ct_BadPoly), sl_BadPoly⟩) (c_BadPoly : PySem.W.codeIn K cd_BadPoly "BadPoly.__init__" = true) (k_BadPoly : PySem.W.keepIn K (.ref f_BadPoly) = true) (nof_BadPoly : fs_BadPoly.all (fun y => decide (PySem.W.findIn K (.ref C_BadPoly) y = some none)) = true) {f_BadText : Addr} {oc_BadText kV_BadText dc_BadText pm_BadText cd_BadText ct_BadText : Value} {od_BadText an_BadText : Option Addr} {sl_BadText : Array (Option Value)} {nm_BadText q_BadText : Str} {N_BadText : Addr} {bs_BadText bm_BadText sub_BadText : List Value} {sn_BadText : List Str} {ab_BadText : Bool} {col_BadText : Option Bool} {dd_BadText : Option Addr} {m0_BadText m1_BadText m2_BadText m3_BadText m5_BadText : Option Value} (xL_BadText : K.lookup C_BadText = some (excClassObj nm_BadText q_BadText C_BadText N_BadText bs_BadText bm_BadText true sn_BadText sub_BadText ab_BadText col_BadText dd_BadText m0_BadText m1_BadText m2_BadText m3_BadText m5_BadText "ValueError.__new__")) (rv_BadText : PySem.HandSPX.refsVE bm_BadText = true) (sa_BadText : PySem.W.findIn K (.ref C_BadText) "__setattr__" = some (some (.builtin "object.__setattr__"))) (eC_BadText : PySem.W.subIn K (.ref C_BadText) (.type "BaseException") = some true) (tC_BadText : PySem.W.typeIn K (.ref C_BadText) = some (.type "type")) (kC_BadText : PySem.W.keepIn K (.ref C_BadText) = true) (iC_BadText : PySem.W.findIn K (.ref C_BadText) "__init__" = some (some (.ref f_BadText))) (tI_BadText : PySem.W.typeIn K (.ref f_BadText) = some (.type "function")) (l_BadText : K.lookup f_BadText = some ⟨oc_BadText, od_BadText, .func (PySem.W.fnOf "__init__" "BadText.__init__" (defArgs si_BadText) (defBody si_BadText) (defScope si_BadText) .none kV_BadText dc_BadText pm_BadText an_BadText cd_BadText ct_BadText), sl_BadText⟩) (c_BadText : PySem.W.codeIn K cd_BadText "BadText.__init__" = true) (k_BadText : PySem.W.keepIn K (.ref f_BadText) = true) (nof_BadText : fs_BadText.all (fun y => decide (PySem.W.findIn K (.ref C_BadText) y = some none)) = true) {f_BadNumber : Addr} {oc_BadNumber kV_BadNumber dc_BadNumber pm_BadNumber cd_BadNumber ct_BadNumber : Value} {od_BadNumber an_BadNumber : Option Addr} {sl_BadNumber : Array (Option Value)} {nm_BadNumber q_BadNumber : Str} {N_BadNumber : Addr} {bs_BadNumber bm_BadNumber sub_BadNumber : List Value} {sn_BadNumber : List Str} {ab_BadNumber : Bool} {col_BadNumber : Option Bool} {dd_BadNumber : Option Addr} {m0_BadNumber m1_BadNumber m2_BadNumber m3_BadNumber m5_BadNumber : Option Value} (xL_BadNumber : K.lookup C_BadNumber = some (excClassObj nm_BadNumber q_BadNumber C_BadNumber N_BadNumber bs_BadNumber bm_BadNumber true sn_BadNumber sub_BadNumber ab_BadNumber col_BadNumber dd_BadNumber m0_BadNumber m1_BadNumber m2_BadNumber m3_BadNumber m5_BadNumber "ValueError.__new__")) (rv_BadNumber : PySem.HandSPX.refsVE bm_BadNumber = true) (sa_BadNumber : PySem.W.findIn K (.ref C_BadNumber) "__setattr__" = some (some (.builtin "object.__setattr__"))) (eC_BadNumber : PySem.W.subIn K (.ref C_BadNumber) (.type "BaseException") = some true) (tC_BadNumber : PySem.W.typeIn K (.ref C_BadNumber) = some (.type "type")) (kC_BadNumber : PySem.W.keepIn K (.ref C_BadNumber) = true) (iC_BadNumber : PySem.W.findIn K (.ref C_BadNumber) "__init__" = some (some (.ref f_BadNumber))) (tI_BadNumber : PySem.W.typeIn K (.ref f_BadNumber) = some (.type "function")) (l_BadNumber : K.lookup f_BadNumber = some ⟨oc_BadNumber, od_BadNumber, .func (PySem.W.fnOf "__init__" "BadNumber.__init__" (defArgs si_BadNumber) (defBody si_BadNumber) (defScope si_BadNumber) .none kV_BadNumber dc_BadNumber pm_BadNumber an_BadNumber cd_BadNumber ct_BadNumber), sl_BadNumber⟩) (c_BadNumber : PySem.W.codeIn K cd_BadNumber "BadNumber.__init__" = true) (k_BadNumber : PySem.W.keepIn K (.ref f_BadNumber) = true) (nof_BadNumber : fs_BadNumber.all (fun y => decide (PySem.W.findIn K (.ref C_BadNumber) y = some none)) = true) {f_NothingToRedo : Addr} {oc_NothingToRedo kV_NothingToRedo dc_NothingToRedo pm_NothingToRedo cd_NothingToRedo ct_NothingToRedo : Value} {od_NothingToRedo an_NothingToRedo : Option Addr} {sl_NothingToRedo : Array (Option Value)} {nm_NothingToRedo q_NothingToRedo : Str} {N_NothingToRedo : Addr} {bs_NothingToRedo bm_NothingToRedo sub_NothingToRedo : List Value} {sn_NothingToRedo : List Str} {ab_NothingToRedo : Bool} {col_NothingToRedo : Option Bool} {dd_NothingToRedo : Option Addr} {m0_NothingToRedo m1_NothingToRedo m2_NothingToRedo m3_NothingToRedo m5_NothingToRedo : Option Value} (xL_NothingToRedo : K.lookup C_NothingToRedo = some (excClassObj nm_NothingToRedo q_NothingToRedo C_NothingToRedo N_NothingToRedo bs_NothingToRedo bm_NothingToRedo true sn_NothingToRedo sub_NothingToRedo ab_NothingToRedo col_NothingToRedo dd_NothingToRedo m0_NothingToRedo m1_NothingToRedo m2_NothingToRedo m3_NothingToRedo m5_NothingToRedo "ValueError.__new__")) (rv_NothingToRedo : PySem.HandSPX.refsVE bm_NothingToRedo = true) (sa_NothingToRedo : PySem.W.findIn K (.ref C_NothingToRedo) "__setattr__" = some (some (.builtin "object.__setattr__"))) (eC_NothingToRedo : PySem.W.subIn K (.ref C_NothingToRedo) (.type "BaseException") = some true) (tC_NothingToRedo : PySem.W.typeIn K (.ref C_NothingToRedo) = some (.type "type")) (kC_NothingToRedo : PySem.W.keepIn K (.ref C_NothingToRedo) = true) (iC_NothingToRedo : PySem.W.findIn K (.ref C_NothingToRedo) "__init__" = some (some (.ref f_NothingToRedo))) (tI_NothingToRedo : PySem.W.typeIn K (.ref f_NothingToRedo) = some (.type "function")) (l_NothingToRedo : K.lookup f_NothingToRedo = some ⟨oc_NothingToRedo, od_NothingToRedo, .func (PySem.W.fnOf "__init__" "NothingToRedo.__init__" (defArgs si_NothingToRedo) (defBody si_NothingToRedo) (defScope si_NothingToRedo) .none kV_NothingToRedo dc_NothingToRedo pm_NothingToRedo an_NothingToRedo cd_NothingToRedo ct_NothingToRedo), sl_NothingToRedo⟩) (c_NothingToRedo : PySem.W.codeIn K cd_NothingToRedo "NothingToRedo.__init__" = true) (k_NothingToRedo : PySem.W.keepIn K (.ref f_NothingToRedo) = true) {f_NothingToUndo : Addr} {oc_NothingToUndo kV_NothingToUndo dc_NothingToUndo pm_NothingToUndo cd_NothingToUndo ct_NothingToUndo : Value} {od_NothingToUndo an_NothingToUndo : Option Addr} {sl_NothingToUndo : Array (Option Value)} {nm_NothingToUndo q_NothingToUndo : Str} {N_NothingToUndo : Addr} {bs_NothingToUndo bm_NothingToUndo sub_NothingToUndo : List Value} {sn_NothingToUndo : List Str} {ab_NothingToUndo : Bool} {col_NothingToUndo : Option Bool} {dd_NothingToUndo : Option Addr} {m0_NothingToUndo m1_NothingToUndo m2_NothingToUndo m3_NothingToUndo m5_NothingToUndo : Option Value} (xL_NothingToUndo : K.lookup C_NothingToUndo = some (excClassObj nm_NothingToUndo q_NothingToUndo C_NothingToUndo N_NothingToUndo bs_NothingToUndo bm_NothingToUndo true sn_NothingToUndo sub_NothingToUndo ab_NothingToUndo col_NothingToUndo dd_NothingToUndo m0_NothingToUndo m1_NothingToUndo m2_NothingToUndo m3_NothingToUndo m5_NothingToUndo "ValueError.__new__")) (rv_NothingToUndo : PySem.HandSPX.refsVE bm_NothingToUndo = true) (sa_NothingToUndo : PySem.W.findIn K (.ref C_NothingToUndo) "__setattr__" = some (some (.builtin "object.__setattr__"))) (eC_NothingToUndo : PySem.W.subIn K (.ref C_NothingToUndo) (.type "BaseException") = some true) (tC_NothingToUndo : PySem.W.typeIn K (.ref C_NothingToUndo) = some (.type "type")) (kC_NothingToUndo : PySem.W.keepIn K (.ref C_NothingToUndo) = true) (iC_NothingToUndo : PySem.W.findIn K (.ref C_NothingToUndo) "__init__" = some (some (.ref f_NothingToUndo))) (tI_NothingToUndo : PySem.W.typeIn K (.ref f_NothingToUndo) = some (.type "function")) (l_NothingToUndo : K.lookup f_NothingToUndo = some ⟨oc_NothingToUndo, od_NothingToUndo, .func (PySem.W.fnOf "__init__" "NothingToUndo.__init__" (defArgs si_NothingToUndo) (defBody si_NothingToUndo) (defScope si_NothingToUndo) .none kV_NothingToUndo dc_NothingToUndo pm_NothingToUndo an_NothingToUndo cd_NothingToUndo ct_NothingToUndo), sl_NothingToUndo⟩) (c_NothingToUndo : PySem.W.codeIn K cd_NothingToUndo "NothingToUndo.__init__" = true) (k_NothingToUndo : PySem.W.keepIn K (.ref f_NothingToUndo) = true) {f_TakenName : Addr} {oc_TakenName kV_TakenName dc_TakenName pm_TakenName cd_TakenName ct_TakenName : Value} {od_TakenName an_TakenName : Option Addr} {sl_TakenName : Array (Option Value)} {nm_TakenName q_TakenName : Str} {N_TakenName : Addr} {bs_TakenName bm_TakenName sub_TakenName : List Value} {sn_TakenName : List Str} {ab_TakenName : Bool} {col_TakenName : Option Bool} {dd_TakenName : Option Addr} {m0_TakenName m1_TakenName m2_TakenName m3_TakenName m5_TakenName : Option Value} (xL_TakenName : K.lookup C_TakenName = some (excClassObj nm_TakenName q_TakenName C_TakenName N_TakenName bs_TakenName bm_TakenName true sn_TakenName sub_TakenName ab_TakenName col_TakenName dd_TakenName m0_TakenName m1_TakenName m2_TakenName m3_TakenName m5_TakenName "ValueError.__new__")) (rv_TakenName : PySem.HandSPX.refsVE bm_TakenName = true) (sa_TakenName : PySem.W.findIn K (.ref C_TakenName) "__setattr__" = some (some (.builtin "object.__setattr__"))) (eC_TakenName : PySem.W.subIn K (.ref C_TakenName) (.type "BaseException") = some true) (tC_TakenName : PySem.W.typeIn K (.ref C_TakenName) = some (.type "type")) (kC_TakenName : PySem.W.keepIn K (.ref C_TakenName) = true) (iC_TakenName : PySem.W.findIn K (.ref C_TakenName) "__init__" = some (some (.ref f_TakenName))) (tI_TakenName : PySem.W.typeIn K (.ref f_TakenName) = some (.type "function")) (l_TakenName : K.lookup f_TakenName = some ⟨oc_TakenName, od_TakenName, .func (PySem.W.fnOf "__init__" "TakenName.__init__" (defArgs si_TakenName) (defBody si_TakenName) (defScope si_TakenName) .none kV_TakenName dc_TakenName pm_TakenName an_TakenName cd_TakenName ct_TakenName), sl_TakenName⟩) (c_TakenName : PySem.W.codeIn K cd_TakenName "TakenName.__init__" = true) (k_TakenName : PySem.W.keepIn K (.ref f_TakenName) = true) (nof_TakenName : fs_TakenName.all (fun y => decide (PySem.W.findIn K (.ref C_TakenName) y = some none)) = true) {f_NoName : Addr} {oc_NoName kV_NoName dc_NoName pm_NoName cd_NoName ct_NoName : Value} {od_NoName an_NoName : Option Addr} {sl_NoName : Array (Option Value)} {nm_NoName q_NoName : Str} {N_NoName : Addr} {bs_NoName bm_NoName sub_NoName : List Value} {sn_NoName : List Str} {ab_NoName : Bool} {col_NoName : Option Bool} {dd_NoName : Option Addr} {m0_NoName m1_NoName m2_NoName m3_NoName m5_NoName : Option Value} (xL_NoName : K.lookup C_NoName = some (excClassObj nm_NoName q_NoName C_NoName N_NoName bs_NoName bm_NoName true sn_NoName sub_NoName ab_NoName col_NoName dd_NoName m0_NoName m1_NoName m2_NoName m3_NoName m5_NoName "ValueError.__new__")) (rv_NoName : PySem.HandSPX.refsVE bm_NoName = true) (sa_NoName : PySem.W.findIn K (.ref C_NoName) "__setattr__" = some (some (.builtin "object.__setattr__"))) (eC_NoName : PySem.W.subIn K (.ref C_NoName) (.type "BaseException") = some true) (tC_NoName : PySem.W.typeIn K (.ref C_NoName) = some (.type "type")) (kC_NoName : PySem.W.keepIn K (.ref C_NoName) = true) (iC_NoName : PySem.W.findIn K (.ref C_NoName) "__init__" = some (some (.ref f_NoName))) (tI_NoName : PySem.W.typeIn K (.ref f_NoName) = some (.type "function")) (l_NoName : K.lookup f_NoName = some ⟨oc_NoName, od_NoName, .func (PySem.W.fnOf "__init__" "NoName.__init__" (defArgs si_NoName) (defBody si_NoName) (defScope si_NoName) .none kV_NoName dc_NoName pm_NoName an_NoName cd_NoName ct_NoName), sl_NoName⟩) (c_NoName : PySem.W.codeIn K cd_NoName "NoName.__init__" = true) (k_NoName : PySem.W.keepIn K (.ref f_NoName) = true) (nof_NoName : fs_NoName.all (fun y => decide (PySem.W.findIn K (.ref C_NoName) y = some none)) = true) {f_BadName : Addr} {oc_BadName kV_BadName dc_BadName pm_BadName cd_BadName ct_BadName : Value} {od_BadName an_BadName : Option Addr} {sl_BadName : Array (Option Value)} {nm_BadName q_BadName : Str} {N_BadName : Addr} {bs_BadName bm_BadName sub_BadName : List Value} {sn_BadName : List Str} {ab_BadName : Bool} {col_BadName : Option Bool} {dd_BadName : Option Addr} {m0_BadName m1_BadName m2_BadName m3_BadName m5_BadName : Option Value} (xL_BadName : K.lookup C_BadName = some (excClassObj nm_BadName q_BadName C_BadName N_BadName bs_BadName bm_BadName true sn_BadName sub_BadName ab_BadName col_BadName dd_BadName m0_BadName m1_BadName m2_BadName m3_BadName m5_BadName "ValueError.__new__")) (rv_BadName : PySem.HandSPX.refsVE bm_BadName = true) (sa_BadName : PySem.W.findIn K (.ref C_BadName) "__setattr__" = some (some (.builtin "object.__setattr__"))) (eC_BadName : PySem.W.subIn K (.ref C_BadName) (.type "BaseException") = some true) (tC_BadName : PySem.W.typeIn K (.ref C_BadName) = some (.type "type")) (kC_BadName : PySem.W.keepIn K (.ref C_BadName) = true) (iC_BadName : PySem.W.findIn K (.ref C_BadName) "__init__" = some (some (.ref f_BadName))) (tI_BadName : PySem.W.typeIn K (.ref f_BadName) = some (.type "function")) (l_BadName : K.lookup f_BadName = some ⟨oc_BadName, od_BadName, .func (PySem.W.fnOf "__init__" "BadName.__init__" (defArgs si_BadName) (defBody si_BadName) (defScope si_BadName) .none kV_BadName dc_BadName pm_BadName an_BadName cd_BadName ct_BadName), sl_BadName⟩) (c_BadName : PySem.W.codeIn K cd_BadName "BadName.__init__" = true) (k_BadName : PySem.W.keepIn K (.ref f_BadName) = true) (nof_BadName : fs_BadName.all (fun y => decide (PySem.W.findIn K (.ref C_BadName) y = some none)) = true) {f_TooMany : Addr} {oc_TooMany kV_TooMany dc_TooMany pm_TooMany cd_TooMany ct_TooMany : Value} {od_TooMany an_TooMany : Option Addr} {sl_TooMany : Array (Option Value)} {nm_TooMany q_TooMany : Str} {N_TooMany : Addr} {bs_TooMany bm_TooMany sub_TooMany : List Value} {sn_TooMany : List Str} {ab_TooMany : Bool} {col_TooMany : Option Bool} {dd_TooMany : Option Addr} {m0_TooMany m1_TooMany m2_TooMany m3_TooMany m5_TooMany : Option Value} (xL_TooMany : K.lookup C_TooMany = some (excClassObj nm_TooMany q_TooMany C_TooMany N_TooMany bs_TooMany bm_TooMany true sn_TooMany sub_TooMany ab_TooMany col_TooMany dd_TooMany m0_TooMany m1_TooMany m2_TooMany m3_TooMany m5_TooMany "ValueError.__new__")) (rv_TooMany : PySem.HandSPX.refsVE bm_TooMany = true) (sa_TooMany : PySem.W.findIn K (.ref C_TooMany) "__setattr__" = some (some (.builtin "object.__setattr__"))) (eC_TooMany : PySem.W.subIn K (.ref C_TooMany) (.type "BaseException") = some true) (tC_TooMany : PySem.W.typeIn K (.ref C_TooMany) = some (.type "type")) (kC_TooMany : PySem.W.keepIn K (.ref C_TooMany) = true) (iC_TooMany : PySem.W.findIn K (.ref C_TooMany) "__init__" = some (some (.ref f_TooMany))) (tI_TooMany : PySem.W.typeIn K (.ref f_TooMany) = some (.type "function")) (l_TooMany : K.lookup f_TooMany = some ⟨oc_TooMany, od_TooMany, .func (PySem.W.fnOf "__init__" "TooMany.__init__" (defArgs si_TooMany) (defBody si_TooMany) (defScope si_TooMany) .none kV_TooMany dc_TooMany pm_TooMany an_TooMany cd_TooMany ct_TooMany), sl_TooMany⟩) (c_TooMany : PySem.W.codeIn K cd_TooMany "TooMany.__init__" = true) (k_TooMany : PySem.W.keepIn K (.ref f_TooMany) = true) (nof_TooMany : fs_TooMany.all (fun y => decide (PySem.W.findIn K (.ref C_TooMany) y = some none)) = true) {f_Unlike : Addr} {oc_Unlike kV_Unlike dc_Unlike pm_Unlike cd_Unlike ct_Unlike : Value} {od_Unlike an_Unlike : Option Addr} {sl_Unlike : Array (Option Value)} {nm_Unlike q_Unlike : Str} {N_Unlike : Addr} {bs_Unlike bm_Unlike sub_Unlike : List Value} {sn_Unlike : List Str} {ab_Unlike : Bool} {col_Unlike : Option Bool} {dd_Unlike : Option Addr} {m0_Unlike m1_Unlike m2_Unlike m3_Unlike m5_Unlike : Option Value} (xL_Unlike : K.lookup C_Unlike = some (excClassObj nm_Unlike q_Unlike C_Unlike N_Unlike bs_Unlike bm_Unlike true sn_Unlike sub_Unlike ab_Unlike col_Unlike dd_Unlike m0_Unlike m1_Unlike m2_Unlike m3_Unlike m5_Unlike "ValueError.__new__")) (rv_Unlike : PySem.HandSPX.refsVE bm_Unlike = true) (sa_Unlike : PySem.W.findIn K (.ref C_Unlike) "__setattr__" = some (some (.builtin "object.__setattr__"))) (eC_Unlike : PySem.W.subIn K (.ref C_Unlike) (.type "BaseException") = some true) (tC_Unlike : PySem.W.typeIn K (.ref C_Unlike) = some (.type "type")) (kC_Unlike : PySem.W.keepIn K (.ref C_Unlike) = true) (iC_Unlike : PySem.W.findIn K (.ref C_Unlike) "__init__" = some (some (.ref f_Unlike))) (tI_Unlike : PySem.W.typeIn K (.ref f_Unlike) = some (.type "function")) (l_Unlike : K.lookup f_Unlike = some ⟨oc_Unlike, od_Unlike, .func (PySem.W.fnOf "__init__" "Unlike.__init__" (defArgs si_Unlike) (defBody si_Unlike) (defScope si_Unlike) .none kV_Unlike dc_Unlike pm_Unlike an_Unlike cd_Unlike ct_Unlike), sl_Unlike⟩) (c_Unlike : PySem.W.codeIn K cd_Unlike "Unlike.__init__" = true) (k_Unlike : PySem.W.keepIn K (.ref f_Unlike) = true) (nof_Unlike : fs_Unlike.all (fun y => decide (PySem.W.findIn K (.ref C_Unlike) y = some none)) = true) (zm_int : PySem.W.nsIn K mainGlobals "int" = some none) (zm_list : PySem.W.nsIn K mainGlobals "list" = some none) (zm_len : PySem.W.nsIn K mainGlobals "len" = some none) (zm_range : PySem.W.nsIn K mainGlobals "range" = some none) (zm_isinstance : PySem.W.nsIn K mainGlobals "isinstance" = some none) (isk : kindsB K C_DrawError (KINDS C_BadNumber C_BadText C_BadPoly C_BadTower C_BadRow C_BadTable C_BadPaper C_Unlike C_TooMany C_BadName C_NoName C_TakenName C_NothingToUndo C_NothingToRedo) = true) (zm_repr : PySem.W.nsIn K mainGlobals "repr" = some none) (zm_all : PySem.W.nsIn K mainGlobals "all" = some none) (att : attB K [(C_BadNumber, fs_BadNumber), (C_BadText, fs_BadText), (C_BadPoly, fs_BadPoly), (C_BadTower, fs_BadTower), (C_BadRow, fs_BadRow), (C_BadTable, fs_BadTable), (C_BadPaper, fs_BadPaper), (C_Unlike, fs_Unlike), (C_TooMany, fs_TooMany), (C_BadName, fs_BadName), (C_NoName, fs_NoName), (C_TakenName, fs_TakenName)] = true) (xcd : PySem.W.exmOne K (.ref C_BadNumber) (.ref C_DrawError) = some true) {c_law0 : Addr} {f_law : Addr} {oc_law kV_law dc_law pm_law ct_law : Value} {od_law an_law : Option Addr} {sl_law : Array (Option Value)} (a_law : PySem.W.nsIn K mainGlobals "law" = some (some (.ref f_law))) (l_law : K.lookup f_law = some ⟨oc_law, od_law, .func (PySem.W.fnOf "law" "law" (defArgs s_law) (defBody s_law) (defScope s_law) .none kV_law dc_law pm_law an_law (.ref c_law0) ct_law), sl_law⟩) (ci_law : PySem.W.codeIn K (.ref c_law0) "law" = true) (k_law : PySem.W.keepIn K (.ref f_law) = true) : LawAtG l w K 4 63 "script" mg fa h := by
  have efa := hfa.symm.trans (PySem.W.mg_of X G a_law)
  cases efa
  have F__law_pen : DefF K mg "_law_pen" s__law_pen ["script"] := defF_mk X G a__law_pen l__law_pen c__law_pen k__law_pen (fun _ F => F.binds fun _ _ _ _ _ _ us hl => match us, hl with | [_], _ => rfl)
  have F__law_draw : DefF K mg "_law_draw" s__law_draw ["pen", "many"] := defF_mk X G a__law_draw l__law_draw c__law_draw k__law_draw (fun _ F => F.binds fun _ _ _ _ _ _ us hl => match us, hl with | [_, _], _ => rfl)
  have F__law_pick : DefF K mg "_law_pick" s__law_pick ["pen", "some"] := defF_mk X G a__law_pick l__law_pick c__law_pick k__law_pick (fun _ F => F.binds fun _ _ _ _ _ _ us hl => match us, hl with | [_, _], _ => rfl)
  have F__law_values : DefF K mg "_law_values" s__law_values ["pen"] := defF_mk X G a__law_values l__law_values c__law_values k__law_values (fun _ F => F.binds fun _ _ _ _ _ _ us hl => match us, hl with | [_], _ => rfl)
  have F__law_kinds_of : DefF K mg "_law_kinds_of" s__law_kinds_of ["fault"] := defF_mk X G a__law_kinds_of l__law_kinds_of c__law_kinds_of k__law_kinds_of (fun _ F => F.binds fun _ _ _ _ _ _ us hl => match us, hl with | [_], _ => rfl)
  have F__law_alone : DefF K mg "_law_alone" s__law_alone ["name", "fault", "due", "found"] := defF_mk X G a__law_alone l__law_alone c__law_alone k__law_alone (fun _ F => F.binds fun _ _ _ _ _ _ us hl => match us, hl with | [_, _, _, _], _ => rfl)
  have F__law_first_right : DefF K mg "_law_first_right" s__law_first_right ["a", "b", "c"] := defF_mk X G a__law_first_right l__law_first_right c__law_first_right k__law_first_right (fun _ F => F.binds fun _ _ _ _ _ _ us hl => match us, hl with | [_, _, _], _ => rfl)
  have F__law_last_right : DefF K mg "_law_last_right" s__law_last_right ["a", "b", "c"] := defF_mk X G a__law_last_right l__law_last_right c__law_last_right k__law_last_right (fun _ F => F.binds fun _ _ _ _ _ _ us hl => match us, hl with | [_, _, _], _ => rfl)
  have F__law_is_caught : DefF K mg "_law_is_caught" s__law_is_caught ["a", "b"] := defF_mk X G a__law_is_caught l__law_is_caught c__law_is_caught k__law_is_caught (fun _ F => F.binds fun _ _ _ _ _ _ us hl => match us, hl with | [_, _], _ => rfl)
  have mC_NothingToRedo := PySem.W.mg_of X G aC_NothingToRedo
  have mC_NothingToUndo := PySem.W.mg_of X G aC_NothingToUndo
  have mC_TakenName := PySem.W.mg_of X G aC_TakenName
  have mC_NoName := PySem.W.mg_of X G aC_NoName
  have mC_BadName := PySem.W.mg_of X G aC_BadName
  have mC_TooMany := PySem.W.mg_of X G aC_TooMany
  have mC_Unlike := PySem.W.mg_of X G aC_Unlike
  have mC_BadPaper := PySem.W.mg_of X G aC_BadPaper
  have mC_BadTable := PySem.W.mg_of X G aC_BadTable
  have mC_BadRow := PySem.W.mg_of X G aC_BadRow
  have mC_BadTower := PySem.W.mg_of X G aC_BadTower
  have mC_BadPoly := PySem.W.mg_of X G aC_BadPoly
  have mC_BadText := PySem.W.mg_of X G aC_BadText
  have mC_BadNumber := PySem.W.mg_of X G aC_BadNumber
  have mC_DrawError := PySem.W.mg_of X G aC_DrawError
  have BD : BaseInit K C_DrawError := ⟨bd1, bd2, bd3, bd4⟩
  have mD := PySem.W.mg_of X G aD
  have v_BadPaper : ∀ base, ErrV l.prog w K mg base "BadPaper" C_BadPaper fs_BadPaper 1 := fun base => errV_mk (st := si_BadPaper) (msg := "A value that is no such paper.") (ps := ["self", "value"]) X G aC_BadPaper (oexC_mk xL_BadPaper rv_BadPaper sa_BadPaper eC_BadPaper tC_BadPaper kC_BadPaper) iC_BadPaper tI_BadPaper l_BadPaper c_BadPaper k_BadPaper nof_BadPaper (fun _ F => F.binds fun _ _ _ _ _ _ us hl => match us, hl with | [_, _], _ => rfl) (fun self ws hl => match ws, hl with | [_], _ => rfl) sci_BadPaper (by simp) rfl (by decide) (fun cdv A outer s H E => (pss_cons (ps_expr (pe_binit (by rfl) mD BD (pa_cons (pv 0) (pa_cons pe_str pa_nil)))) (pss_one (ps_ost (pv 0) (pv 1)))))
  have v_BadTable : ∀ base, ErrV l.prog w K mg base "BadTable" C_BadTable fs_BadTable 1 := fun base => errV_mk (st := si_BadTable) (msg := "A value that is no such table.") (ps := ["self", "table"]) X G aC_BadTable (oexC_mk xL_BadTable rv_BadTable sa_BadTable eC_BadTable tC_BadTable kC_BadTable) iC_BadTable tI_BadTable l_BadTable c_BadTable k_BadTable nof_BadTable (fun _ F => F.binds fun _ _ _ _ _ _ us hl => match us, hl with | [_, _], _ => rfl) (fun self ws hl => match ws, hl with | [_], _ => rfl) sci_BadTable (by simp) rfl (by decide) (fun cdv A outer s H E => (pss_cons (ps_expr (pe_binit (by rfl) mD BD (pa_cons (pv 0) (pa_cons pe_str pa_nil)))) (pss_one (ps_ost (pv 0) (pv 1)))))
  have v_BadRow : ∀ base, ErrV l.prog w K mg base "BadRow" C_BadRow fs_BadRow 1 := fun base => errV_mk (st := si_BadRow) (msg := "A value that is no such row.") (ps := ["self", "row"]) X G aC_BadRow (oexC_mk xL_BadRow rv_BadRow sa_BadRow eC_BadRow tC_BadRow kC_BadRow) iC_BadRow tI_BadRow l_BadRow c_BadRow k_BadRow nof_BadRow (fun _ F => F.binds fun _ _ _ _ _ _ us hl => match us, hl with | [_, _], _ => rfl) (fun self ws hl => match ws, hl with | [_], _ => rfl) sci_BadRow (by simp) rfl (by decide) (fun cdv A outer s H E => (pss_cons (ps_expr (pe_binit (by rfl) mD BD (pa_cons (pv 0) (pa_cons pe_str pa_nil)))) (pss_one (ps_ost (pv 0) (pv 1)))))
  have v_BadTower : ∀ base, ErrV l.prog w K mg base "BadTower" C_BadTower fs_BadTower 1 := fun base => errV_mk (st := si_BadTower) (msg := "A value of which no tower is made.") (ps := ["self", "what", "value"]) X G aC_BadTower (oexC_mk xL_BadTower rv_BadTower sa_BadTower eC_BadTower tC_BadTower kC_BadTower) iC_BadTower tI_BadTower l_BadTower c_BadTower k_BadTower nof_BadTower (fun _ F => F.binds fun _ _ _ _ _ _ us hl => match us, hl with | [_, _, _], _ => rfl) (fun self ws hl => match ws, hl with | [_, _], _ => rfl) sci_BadTower (by simp) rfl (by decide) (fun cdv A outer s H E => (pss_cons (ps_expr (pe_binit (by rfl) mD BD (pa_cons (pv 0) (pa_cons pe_str pa_nil)))) (pss_cons (ps_ost (pv 0) (pv 1)) (pss_one (ps_ost (pv 0) (pv 2))))))
  have v_BadPoly : ∀ base, ErrV l.prog w K mg base "BadPoly" C_BadPoly fs_BadPoly 1 := fun base => errV_mk (st := si_BadPoly) (msg := "A value of which no polynomial is made.") (ps := ["self", "value"]) X G aC_BadPoly (oexC_mk xL_BadPoly rv_BadPoly sa_BadPoly eC_BadPoly tC_BadPoly kC_BadPoly) iC_BadPoly tI_BadPoly l_BadPoly c_BadPoly k_BadPoly nof_BadPoly (fun _ F => F.binds fun _ _ _ _ _ _ us hl => match us, hl with | [_, _], _ => rfl) (fun self ws hl => match ws, hl with | [_], _ => rfl) sci_BadPoly (by simp) rfl (by decide) (fun cdv A outer s H E => (pss_cons (ps_expr (pe_binit (by rfl) mD BD (pa_cons (pv 0) (pa_cons pe_str pa_nil)))) (pss_one (ps_ost (pv 0) (pv 1)))))
  have v_BadText : ∀ base, ErrV l.prog w K mg base "BadText" C_BadText fs_BadText 1 := fun base => errV_mk (st := si_BadText) (msg := "A text that is wrong at a place.") (ps := ["self", "line", "column"]) X G aC_BadText (oexC_mk xL_BadText rv_BadText sa_BadText eC_BadText tC_BadText kC_BadText) iC_BadText tI_BadText l_BadText c_BadText k_BadText nof_BadText (fun _ F => F.binds fun _ _ _ _ _ _ us hl => match us, hl with | [_, _, _], _ => rfl) (fun self ws hl => match ws, hl with | [_, _], _ => rfl) sci_BadText (by simp) rfl (by decide) (fun cdv A outer s H E => (pss_cons (ps_expr (pe_binit (by rfl) mD BD (pa_cons (pv 0) (pa_cons pe_str pa_nil)))) (pss_cons (ps_ost (pv 0) (pv 1)) (pss_one (ps_ost (pv 0) (pv 2))))))
  have v_BadNumber : ∀ base, ErrV l.prog w K mg base "BadNumber" C_BadNumber fs_BadNumber 1 := fun base => errV_mk (st := si_BadNumber) (msg := "A number that is not allowed here.") (ps := ["self", "what", "number"]) X G aC_BadNumber (oexC_mk xL_BadNumber rv_BadNumber sa_BadNumber eC_BadNumber tC_BadNumber kC_BadNumber) iC_BadNumber tI_BadNumber l_BadNumber c_BadNumber k_BadNumber nof_BadNumber (fun _ F => F.binds fun _ _ _ _ _ _ us hl => match us, hl with | [_, _, _], _ => rfl) (fun self ws hl => match ws, hl with | [_, _], _ => rfl) sci_BadNumber (by simp) rfl (by decide) (fun cdv A outer s H E => (pss_cons (ps_expr (pe_binit (by rfl) mD BD (pa_cons (pv 0) (pa_cons pe_str pa_nil)))) (pss_cons (ps_ost (pv 0) (pv 1)) (pss_one (ps_ost (pv 0) (pv 2))))))
  have v_NothingToRedo : ∀ base, Err0 l.prog w K mg base "NothingToRedo" C_NothingToRedo 1 := fun base => err0_mk (st := si_NothingToRedo) (msg := "There is no edit to be done again.") (ps := ["self"]) X G aC_NothingToRedo (oexC_mk xL_NothingToRedo rv_NothingToRedo sa_NothingToRedo eC_NothingToRedo tC_NothingToRedo kC_NothingToRedo) iC_NothingToRedo tI_NothingToRedo l_NothingToRedo c_NothingToRedo k_NothingToRedo (fun _ F => F.binds fun _ _ _ _ _ _ us hl => match us, hl with | [_], _ => rfl) sci_NothingToRedo rfl (fun cdv A outer s H E => (pss_one (ps_expr (pe_binit (by rfl) mD BD (pa_cons (pv 0) (pa_cons pe_str pa_nil))))))
  have v_NothingToUndo : ∀ base, Err0 l.prog w K mg base "NothingToUndo" C_NothingToUndo 1 := fun base => err0_mk (st := si_NothingToUndo) (msg := "There is no edit to be taken back.") (ps := ["self"]) X G aC_NothingToUndo (oexC_mk xL_NothingToUndo rv_NothingToUndo sa_NothingToUndo eC_NothingToUndo tC_NothingToUndo kC_NothingToUndo) iC_NothingToUndo tI_NothingToUndo l_NothingToUndo c_NothingToUndo k_NothingToUndo (fun _ F => F.binds fun _ _ _ _ _ _ us hl => match us, hl with | [_], _ => rfl) sci_NothingToUndo rfl (fun cdv A outer s H E => (pss_one (ps_expr (pe_binit (by rfl) mD BD (pa_cons (pv 0) (pa_cons pe_str pa_nil))))))
  have v_TakenName : ∀ base, ErrV l.prog w K mg base "TakenName" C_TakenName fs_TakenName 1 := fun base => errV_mk (st := si_TakenName) (msg := "Something has this name already.") (ps := ["self", "name"]) X G aC_TakenName (oexC_mk xL_TakenName rv_TakenName sa_TakenName eC_TakenName tC_TakenName kC_TakenName) iC_TakenName tI_TakenName l_TakenName c_TakenName k_TakenName nof_TakenName (fun _ F => F.binds fun _ _ _ _ _ _ us hl => match us, hl with | [_, _], _ => rfl) (fun self ws hl => match ws, hl with | [_], _ => rfl) sci_TakenName (by simp) rfl (by decide) (fun cdv A outer s H E => (pss_cons (ps_expr (pe_binit (by rfl) mD BD (pa_cons (pv 0) (pa_cons pe_str pa_nil)))) (pss_one (ps_ost (pv 0) (pv 1)))))
  have v_NoName : ∀ base, ErrV l.prog w K mg base "NoName" C_NoName fs_NoName 1 := fun base => errV_mk (st := si_NoName) (msg := "Nothing has this name.") (ps := ["self", "name"]) X G aC_NoName (oexC_mk xL_NoName rv_NoName sa_NoName eC_NoName tC_NoName kC_NoName) iC_NoName tI_NoName l_NoName c_NoName k_NoName nof_NoName (fun _ F => F.binds fun _ _ _ _ _ _ us hl => match us, hl with | [_, _], _ => rfl) (fun self ws hl => match ws, hl with | [_], _ => rfl) sci_NoName (by simp) rfl (by decide) (fun cdv A outer s H E => (pss_cons (ps_expr (pe_binit (by rfl) mD BD (pa_cons (pv 0) (pa_cons pe_str pa_nil)))) (pss_one (ps_ost (pv 0) (pv 1)))))
  have v_BadName : ∀ base, ErrV l.prog w K mg base "BadName" C_BadName fs_BadName 1 := fun base => errV_mk (st := si_BadName) (msg := "A value that is no name.") (ps := ["self", "name"]) X G aC_BadName (oexC_mk xL_BadName rv_BadName sa_BadName eC_BadName tC_BadName kC_BadName) iC_BadName tI_BadName l_BadName c_BadName k_BadName nof_BadName (fun _ F => F.binds fun _ _ _ _ _ _ us hl => match us, hl with | [_, _], _ => rfl) (fun self ws hl => match ws, hl with | [_], _ => rfl) sci_BadName (by simp) rfl (by decide) (fun cdv A outer s H E => (pss_cons (ps_expr (pe_binit (by rfl) mD BD (pa_cons (pv 0) (pa_cons pe_str pa_nil)))) (pss_one (ps_ost (pv 0) (pv 1)))))
  have v_TooMany : ∀ base, ErrV l.prog w K mg base "TooMany" C_TooMany fs_TooMany 1 := fun base => errV_mk (st := si_TooMany) (msg := "More than may be.") (ps := ["self", "what", "many", "limit"]) X G aC_TooMany (oexC_mk xL_TooMany rv_TooMany sa_TooMany eC_TooMany tC_TooMany kC_TooMany) iC_TooMany tI_TooMany l_TooMany c_TooMany k_TooMany nof_TooMany (fun _ F => F.binds fun _ _ _ _ _ _ us hl => match us, hl with | [_, _, _, _], _ => rfl) (fun self ws hl => match ws, hl with | [_, _, _], _ => rfl) sci_TooMany (by simp) rfl (by decide) (fun cdv A outer s H E => (pss_cons (ps_expr (pe_binit (by rfl) mD BD (pa_cons (pv 0) (pa_cons pe_str pa_nil)))) (pss_cons (ps_ost (pv 0) (pv 1)) (pss_cons (ps_ost (pv 0) (pv 2)) (pss_one (ps_ost (pv 0) (pv 3)))))))
  have v_Unlike : ∀ base, ErrV l.prog w K mg base "Unlike" C_Unlike fs_Unlike 1 := fun base => errV_mk (st := si_Unlike) (msg := "Things that do not fit together.") (ps := ["self", "what"]) X G aC_Unlike (oexC_mk xL_Unlike rv_Unlike sa_Unlike eC_Unlike tC_Unlike kC_Unlike) iC_Unlike tI_Unlike l_Unlike c_Unlike k_Unlike nof_Unlike (fun _ F => F.binds fun _ _ _ _ _ _ us hl => match us, hl with | [_, _], _ => rfl) (fun self ws hl => match ws, hl with | [_], _ => rfl) sci_Unlike (by simp) rfl (by decide) (fun cdv A outer s H E => (pss_cons (ps_expr (pe_binit (by rfl) mD BD (pa_cons (pv 0) (pa_cons pe_str pa_nil)))) (pss_one (ps_ost (pv 0) (pv 1)))))
  have m_int := PySem.W.mg_none_of X G zm_int
  have m_list := PySem.W.mg_none_of X G zm_list
  have m_len := PySem.W.mg_none_of X G zm_len
  have m_range := PySem.W.mg_none_of X G zm_range
  have m_isinstance := PySem.W.mg_none_of X G zm_isinstance
  have m_repr := PySem.W.mg_none_of X G zm_repr
  have m_all := PySem.W.mg_none_of X G zm_all
  have FL := fun_mk (st := s_law) l_law ci_law k_law
  refine ⟨PySem.W.fnOf "law" "law" (defArgs s_law) (defBody s_law) (defScope s_law) .none kV_law dc_law pm_law an_law (.ref c_law0) ct_law, [], (w_law K), (fun q hq => by cases hq), (fun q hq => by cases hq), (fun q hq => by cases hq), fun s u => .of_eq rfl, ?_, fun base KB GB TB => all_ok (P := l.prog) (w := w) (base := base) (F__law_pen := F__law_pen) (F__law_draw := F__law_draw) (F__law_pick := F__law_pick) (F__law_values := F__law_values) (F__law_kinds_of := F__law_kinds_of) (F__law_alone := F__law_alone) (F__law_first_right := F__law_first_right) (F__law_last_right := F__law_last_right) (F__law_is_caught := F__law_is_caught) (m_int := m_int) (m_list := m_list) (m_len := m_len) (m_range := m_range) (mC_NothingToRedo := mC_NothingToRedo) (m_isinstance := m_isinstance) (mC_NothingToUndo := mC_NothingToUndo) (mC_TakenName := mC_TakenName) (mC_NoName := mC_NoName) (mC_BadName := mC_BadName) (mC_TooMany := mC_TooMany) (mC_Unlike := mC_Unlike) (mC_BadPaper := mC_BadPaper) (mC_BadTable := mC_BadTable) (mC_BadRow := mC_BadRow) (mC_BadTower := mC_BadTower) (mC_BadPoly := mC_BadPoly) (mC_BadText := mC_BadText) (mC_BadNumber := mC_BadNumber) (isk := isk) (m_repr := m_repr) (mC_DrawError := mC_DrawError) (m_all := m_all) (v_BadPaper := v_BadPaper base) (v_BadTable := v_BadTable base) (v_BadRow := v_BadRow base) (v_BadTower := v_BadTower base) (v_BadPoly := v_BadPoly base) (v_BadText := v_BadText base) (v_BadNumber := v_BadNumber base) (att := att) (v_NothingToRedo := v_NothingToRedo base) (v_NothingToUndo := v_NothingToUndo base) (v_TakenName := v_TakenName base) (v_NoName := v_NoName base) (v_BadName := v_BadName base) (v_TooMany := v_TooMany base) (v_Unlike := v_Unlike base) (xcd := xcd) FL⟩
  · intro ns h1 h2
    exact ⟨ns, [], rfl, h1, rfl, fun _ => rfl⟩
end

end L00


open PySem PySem.W PyProof.Rows in
set_option maxRecDepth 100000 in
set_option maxHeartbeats 0 in
theorem PySem.Challenge.cw_drawproofs_k00_errors_made_by_hand_holds : PySem.Challenge.rw_drawproofs_k00_errors_made_by_hand.Holds := by
  w_on; o_law; k_head; (case hw => w_witness2)
  k_fill
  refine DL.walk_ofG (l := PySem.Challenge.rw_drawproofs_k00_errors_made_by_hand) (n := 63) (k := 4) (x := "script") rfl (by decide) rfl ⟨rfl, by decide, by decide⟩ (fun w h Y => PySem.W.kIn_of Y) ?F
  case F =>
    intro w mg fa h Y KX G hmg
    refine' L00.end_mk KX G hmg ?a__law_pen ?l__law_pen ?c__law_pen ?k__law_pen ?a__law_draw ?l__law_draw ?c__law_draw ?k__law_draw ?a__law_pick ?l__law_pick ?c__law_pick ?k__law_pick ?a__law_values ?l__law_values ?c__law_values ?k__law_values ?a__law_kinds_of ?l__law_kinds_of ?c__law_kinds_of ?k__law_kinds_of ?a__law_alone ?l__law_alone ?c__law_alone ?k__law_alone ?a__law_first_right ?l__law_first_right ?c__law_first_right ?k__law_first_right ?a__law_last_right ?l__law_last_right ?c__law_last_right ?k__law_last_right ?a__law_is_caught ?l__law_is_caught ?c__law_is_caught ?k__law_is_caught ?aC_NothingToRedo ?aC_NothingToUndo ?aC_TakenName ?aC_NoName ?aC_BadName ?aC_TooMany ?aC_Unlike ?aC_BadPaper ?aC_BadTable ?aC_BadRow ?aC_BadTower ?aC_BadPoly ?aC_BadText ?aC_BadNumber ?aC_DrawError ?aD ?bd1 ?bd2 ?bd3 ?bd4 ?xL_BadPaper ?rv_BadPaper ?sa_BadPaper ?eC_BadPaper ?tC_BadPaper ?kC_BadPaper ?iC_BadPaper ?tI_BadPaper ?l_BadPaper ?c_BadPaper ?k_BadPaper ?nof_BadPaper ?xL_BadTable ?rv_BadTable ?sa_BadTable ?eC_BadTable ?tC_BadTable ?kC_BadTable ?iC_BadTable ?tI_BadTable ?l_BadTable ?c_BadTable ?k_BadTable ?nof_BadTable ?xL_BadRow ?rv_BadRow ?sa_BadRow ?eC_BadRow ?tC_BadRow ?kC_BadRow ?iC_BadRow ?tI_BadRow ?l_BadRow ?c_BadRow ?k_BadRow ?nof_BadRow ?xL_BadTower ?rv_BadTower ?sa_BadTower ?eC_BadTower ?tC_BadTower ?kC_BadTower ?iC_BadTower ?tI_BadTower ?l_BadTower ?c_BadTower ?k_BadTower ?nof_BadTower ?xL_BadPoly ?rv_BadPoly ?sa_BadPoly ?eC_BadPoly ?tC_BadPoly ?kC_BadPoly ?iC_BadPoly ?tI_BadPoly ?l_BadPoly ?c_BadPoly ?k_BadPoly ?nof_BadPoly ?xL_BadText ?rv_BadText ?sa_BadText ?eC_BadText ?tC_BadText ?kC_BadText ?iC_BadText ?tI_BadText ?l_BadText ?c_BadText ?k_BadText ?nof_BadText ?xL_BadNumber ?rv_BadNumber ?sa_BadNumber ?eC_BadNumber ?tC_BadNumber ?kC_BadNumber ?iC_BadNumber ?tI_BadNumber ?l_BadNumber ?c_BadNumber ?k_BadNumber ?nof_BadNumber ?xL_NothingToRedo ?rv_NothingToRedo ?sa_NothingToRedo ?eC_NothingToRedo ?tC_NothingToRedo ?kC_NothingToRedo ?iC_NothingToRedo ?tI_NothingToRedo ?l_NothingToRedo ?c_NothingToRedo ?k_NothingToRedo ?xL_NothingToUndo ?rv_NothingToUndo ?sa_NothingToUndo ?eC_NothingToUndo ?tC_NothingToUndo ?kC_NothingToUndo ?iC_NothingToUndo ?tI_NothingToUndo ?l_NothingToUndo ?c_NothingToUndo ?k_NothingToUndo ?xL_TakenName ?rv_TakenName ?sa_TakenName ?eC_TakenName ?tC_TakenName ?kC_TakenName ?iC_TakenName ?tI_TakenName ?l_TakenName ?c_TakenName ?k_TakenName ?nof_TakenName ?xL_NoName ?rv_NoName ?sa_NoName ?eC_NoName ?tC_NoName ?kC_NoName ?iC_NoName ?tI_NoName ?l_NoName ?c_NoName ?k_NoName ?nof_NoName ?xL_BadName ?rv_BadName ?sa_BadName ?eC_BadName ?tC_BadName ?kC_BadName ?iC_BadName ?tI_BadName ?l_BadName ?c_BadName ?k_BadName ?nof_BadName ?xL_TooMany ?rv_TooMany ?sa_TooMany ?eC_TooMany ?tC_TooMany ?kC_TooMany ?iC_TooMany ?tI_TooMany ?l_TooMany ?c_TooMany ?k_TooMany ?nof_TooMany ?xL_Unlike ?rv_Unlike ?sa_Unlike ?eC_Unlike ?tC_Unlike ?kC_Unlike ?iC_Unlike ?tI_Unlike ?l_Unlike ?c_Unlike ?k_Unlike ?nof_Unlike ?zm_int ?zm_list ?zm_len ?zm_range ?zm_isinstance ?isk ?zm_repr ?zm_all ?att ?xcd ?a_law ?l_law ?ci_law ?k_law
    (case a__law_pen => k_is)
    (case l__law_pen => k_is)
    (case c__law_pen => k_is)
    (case k__law_pen => k_is)
    (case a__law_draw => k_is)
    (case l__law_draw => k_is)
    (case c__law_draw => k_is)
    (case k__law_draw => k_is)
    (case a__law_pick => k_is)
    (case l__law_pick => k_is)
    (case c__law_pick => k_is)
    (case k__law_pick => k_is)
    (case a__law_values => k_is)
    (case l__law_values => k_is)
    (case c__law_values => k_is)
    (case k__law_values => k_is)
    (case a__law_kinds_of => k_is)
    (case l__law_kinds_of => k_is)
    (case c__law_kinds_of => k_is)
    (case k__law_kinds_of => k_is)
    (case a__law_alone => k_is)
    (case l__law_alone => k_is)
    (case c__law_alone => k_is)
    (case k__law_alone => k_is)
    (case a__law_first_right => k_is)
    (case l__law_first_right => k_is)
    (case c__law_first_right => k_is)
    (case k__law_first_right => k_is)
    (case a__law_last_right => k_is)
    (case l__law_last_right => k_is)
    (case c__law_last_right => k_is)
    (case k__law_last_right => k_is)
    (case a__law_is_caught => k_is)
    (case l__law_is_caught => k_is)
    (case c__law_is_caught => k_is)
    (case k__law_is_caught => k_is)
    (case aC_NothingToRedo => k_is)
    (case aC_NothingToUndo => k_is)
    (case aC_TakenName => k_is)
    (case aC_NoName => k_is)
    (case aC_BadName => k_is)
    (case aC_TooMany => k_is)
    (case aC_Unlike => k_is)
    (case aC_BadPaper => k_is)
    (case aC_BadTable => k_is)
    (case aC_BadRow => k_is)
    (case aC_BadTower => k_is)
    (case aC_BadPoly => k_is)
    (case aC_BadText => k_is)
    (case aC_BadNumber => k_is)
    (case aC_DrawError => k_is)
    (case aD => k_is)
    (case bd1 => k_is)
    (case bd2 => k_is)
    (case bd3 => k_is)
    (case bd4 => k_is)
    (case xL_BadPaper => k_is)
    (case rv_BadPaper => decide +kernel)
    (case sa_BadPaper => k_is)
    (case eC_BadPaper => k_is)
    (case tC_BadPaper => k_is)
    (case kC_BadPaper => k_is)
    (case iC_BadPaper => k_is)
    (case tI_BadPaper => k_is)
    (case l_BadPaper => k_is)
    (case c_BadPaper => k_is)
    (case k_BadPaper => k_is)
    (case nof_BadPaper => kernel_rfl)
    (case xL_BadTable => k_is)
    (case rv_BadTable => decide +kernel)
    (case sa_BadTable => k_is)
    (case eC_BadTable => k_is)
    (case tC_BadTable => k_is)
    (case kC_BadTable => k_is)
    (case iC_BadTable => k_is)
    (case tI_BadTable => k_is)
    (case l_BadTable => k_is)
    (case c_BadTable => k_is)
    (case k_BadTable => k_is)
    (case nof_BadTable => kernel_rfl)
    (case xL_BadRow => k_is)
    (case rv_BadRow => decide +kernel)
    (case sa_BadRow => k_is)
    (case eC_BadRow => k_is)
    (case tC_BadRow => k_is)
    (case kC_BadRow => k_is)
    (case iC_BadRow => k_is)
    (case tI_BadRow => k_is)
    (case l_BadRow => k_is)
    (case c_BadRow => k_is)
    (case k_BadRow => k_is)
    (case nof_BadRow => kernel_rfl)
    (case xL_BadTower => k_is)
    (case rv_BadTower => decide +kernel)
    (case sa_BadTower => k_is)
    (case eC_BadTower => k_is)
    (case tC_BadTower => k_is)
    (case kC_BadTower => k_is)
    (case iC_BadTower => k_is)
    (case tI_BadTower => k_is)
    (case l_BadTower => k_is)
    (case c_BadTower => k_is)
    (case k_BadTower => k_is)
    (case nof_BadTower => kernel_rfl)
    (case xL_BadPoly => k_is)
    (case rv_BadPoly => decide +kernel)
    (case sa_BadPoly => k_is)
    (case eC_BadPoly => k_is)
    (case tC_BadPoly => k_is)
    (case kC_BadPoly => k_is)
    (case iC_BadPoly => k_is)
    (case tI_BadPoly => k_is)
    (case l_BadPoly => k_is)
    (case c_BadPoly => k_is)
    (case k_BadPoly => k_is)
    (case nof_BadPoly => kernel_rfl)
    (case xL_BadText => k_is)
    (case rv_BadText => decide +kernel)
    (case sa_BadText => k_is)
    (case eC_BadText => k_is)
    (case tC_BadText => k_is)
    (case kC_BadText => k_is)
    (case iC_BadText => k_is)
    (case tI_BadText => k_is)
    (case l_BadText => k_is)
    (case c_BadText => k_is)
    (case k_BadText => k_is)
    (case nof_BadText => kernel_rfl)
    (case xL_BadNumber => k_is)
    (case rv_BadNumber => decide +kernel)
    (case sa_BadNumber => k_is)
    (case eC_BadNumber => k_is)
    (case tC_BadNumber => k_is)
    (case kC_BadNumber => k_is)
    (case iC_BadNumber => k_is)
    (case tI_BadNumber => k_is)
    (case l_BadNumber => k_is)
    (case c_BadNumber => k_is)
    (case k_BadNumber => k_is)
    (case nof_BadNumber => kernel_rfl)
    (case xL_NothingToRedo => k_is)
    (case rv_NothingToRedo => decide +kernel)
    (case sa_NothingToRedo => k_is)
    (case eC_NothingToRedo => k_is)
    (case tC_NothingToRedo => k_is)
    (case kC_NothingToRedo => k_is)
    (case iC_NothingToRedo => k_is)
    (case tI_NothingToRedo => k_is)
    (case l_NothingToRedo => k_is)
    (case c_NothingToRedo => k_is)
    (case k_NothingToRedo => k_is)
    (case xL_NothingToUndo => k_is)
    (case rv_NothingToUndo => decide +kernel)
    (case sa_NothingToUndo => k_is)
    (case eC_NothingToUndo => k_is)
    (case tC_NothingToUndo => k_is)
    (case kC_NothingToUndo => k_is)
    (case iC_NothingToUndo => k_is)
    (case tI_NothingToUndo => k_is)
    (case l_NothingToUndo => k_is)
    (case c_NothingToUndo => k_is)
    (case k_NothingToUndo => k_is)
    (case xL_TakenName => k_is)
    (case rv_TakenName => decide +kernel)
    (case sa_TakenName => k_is)
    (case eC_TakenName => k_is)
    (case tC_TakenName => k_is)
    (case kC_TakenName => k_is)
    (case iC_TakenName => k_is)
    (case tI_TakenName => k_is)
    (case l_TakenName => k_is)
    (case c_TakenName => k_is)
    (case k_TakenName => k_is)
    (case nof_TakenName => kernel_rfl)
    (case xL_NoName => k_is)
    (case rv_NoName => decide +kernel)
    (case sa_NoName => k_is)
    (case eC_NoName => k_is)
    (case tC_NoName => k_is)
    (case kC_NoName => k_is)
    (case iC_NoName => k_is)
    (case tI_NoName => k_is)
    (case l_NoName => k_is)
    (case c_NoName => k_is)
    (case k_NoName => k_is)
    (case nof_NoName => kernel_rfl)
    (case xL_BadName => k_is)
    (case rv_BadName => decide +kernel)
    (case sa_BadName => k_is)
    (case eC_BadName => k_is)
    (case tC_BadName => k_is)
    (case kC_BadName => k_is)
    (case iC_BadName => k_is)
    (case tI_BadName => k_is)
    (case l_BadName => k_is)
    (case c_BadName => k_is)
    (case k_BadName => k_is)
    (case nof_BadName => kernel_rfl)
    (case xL_TooMany => k_is)
    (case rv_TooMany => decide +kernel)
    (case sa_TooMany => k_is)
    (case eC_TooMany => k_is)
    (case tC_TooMany => k_is)
    (case kC_TooMany => k_is)
    (case iC_TooMany => k_is)
    (case tI_TooMany => k_is)
    (case l_TooMany => k_is)
    (case c_TooMany => k_is)
    (case k_TooMany => k_is)
    (case nof_TooMany => kernel_rfl)
    (case xL_Unlike => k_is)
    (case rv_Unlike => decide +kernel)
    (case sa_Unlike => k_is)
    (case eC_Unlike => k_is)
    (case tC_Unlike => k_is)
    (case kC_Unlike => k_is)
    (case iC_Unlike => k_is)
    (case tI_Unlike => k_is)
    (case l_Unlike => k_is)
    (case c_Unlike => k_is)
    (case k_Unlike => k_is)
    (case nof_Unlike => kernel_rfl)
    (case zm_int => k_is)
    (case zm_list => k_is)
    (case zm_len => k_is)
    (case zm_range => k_is)
    (case zm_isinstance => k_is)
    (case isk => kernel_rfl)
    (case zm_repr => k_is)
    (case zm_all => k_is)
    (case att => kernel_rfl)
    (case xcd => kernel_rfl)
    (case a_law => k_is)
    (case l_law => k_is)
    (case ci_law => k_is)
    (case k_law => k_is)



