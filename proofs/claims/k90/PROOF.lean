import PyProof.Rows.All
import Wide.All
import OpenK.AllK
import Wide.FinOn
import HandS.ForMost
import HandS.Exc
import HandS.ExcOwn
import HandS.ExcInit
import HandS.WordsExc
import HandS.TryMany
import HandS.Wide
import HandS.IsInst
import PyProof.ReprRoads
import HandS.Lambda
import HandS.EndTab
import HandS.Gcd
import HandS.Style
import HandS.WideBits
import HandS.TupAny
import HandS.TupMul
import HandS.ExcField
import PyProof.ReprBulk
import HandS.Zip
import PyProof.P3In
import HandS.ExcIs
import HandS.TryOnly
import KE.KExcIs
import HandS.MakeKwOnly
import HandS.DeepEq
import HandS.OwnEq
import PySem.Challenge.RW_drawproofs_k90_classes_made_by_hand
set_option Elab.async false
set_option linter.all false
set_option maxRecDepth 100000
set_option maxHeartbeats 2000000
/-! DL0: promises of defs for runs around which nothing is being shown (so that repr may be asked). Own work over HandS. -/
namespace DL
open PySem PySem.Spec PyProof.Rows L2

/-- a def's promise, for calls around which no repr runs -/
structure FnG (P : Program) (w : World) (K : PySem.W.Frag) (mg : Str → Option Value) (base : Heap) (k : Nat) (f : Addr) (fd : FuncData) (ps : List Str) (sp : Sp) : Prop where
  len : ∀ vs H Q E, sp vs H Q E → vs.length = ps.length
  run : ∀ (A : Around) (outer : List Env) (s : Shared) (H : Hp) (args : Args) (us : List Value) (vs : List V) (Q : VK) (E : XK), A.guards = some [] → Room k A → Env0 P w K mg base A outer s H → BindsTo s fd args (ps.zip us) → Vals vs us → sp vs H Q E →
    codeAny (model P w) A (.call (.ref f) args) (CR (L2.CX P w) outer P w H s Q E) s
section
variable {P : Program} {w : World} {K : PySem.W.Frag} {mg : Str → Option Value} {base : Heap}
theorem FnG.mono {j k : Nat} {f : Addr} {fd : FuncData} {ps : List Str} {sp : Sp} (F : FnG P w K mg base j f fd ps sp) (h : j ≤ k) : FnG P w K mg base k f fd ps sp :=
  ⟨F.len, fun A outer s H args us vs Q E hg hr => F.run A outer s H args us vs Q E hg (hr.mono h)⟩
theorem FnG.imp {k : Nat} {f : Addr} {fd : FuncData} {ps : List Str} {sp sp' : Sp} (F : FnG P w K mg base k f fd ps sp) (h : ∀ vs H Q E, sp' vs H Q E → sp vs H Q E) : FnG P w K mg base k f fd ps sp' :=
  ⟨fun vs H Q E q => F.len vs H Q E (h _ _ _ _ q), fun A outer s H args us vs Q E hg hr he hb hv hs => F.run A outer s H args us vs Q E hg hr he hb hv (h _ _ _ _ hs)⟩
/-- by the body; what is around the call may be told of it -/
theorem FnG.of {x qual : Str} {st : Stmt} {f : Addr} {fd : FuncData} {N ps : List Str} {k : Nat} {sp : Sp} (F : Fun K x qual st f fd) (S : FnScope N ps (defScope st)) (len : ∀ vs H Q E, sp vs H Q E → vs.length = ps.length)
    (body : ∀ (cdv : Value), fd.code = cdv → ∀ (A : Around) (outer : List Env) (s : Shared) (H : Hp) (vs : List V) (Q : VK) (E : XK), A.guards = some [] → Room k (A.deeper (envOfC qual (defScope st) s.heap.objs.size f cdv)) → sp vs H Q E →
      ∃ t, PSs (cxOf (L2.CX P w) P w K mg base N qual (defScope st) f cdv A outer s H E) (defBody st) t ∧ t { nx := fun _ H' => Q .non H', rt := Q } (L2.start N vs) H) : FnG P w K mg base (k + 1) f fd ps sp := by
  obtain ⟨oc, od, kV, doc, pm, an, cdv, ct, osl, rfl, lk, hcd⟩ := F.ex
  refine ⟨len, fun A outer s H args us vs Q E hg hr e0 hb r hsp => ?_⟩
  -- the same def, its promise cut down to this very call
  let one : Sp := fun vs' H' Q' E' => vs' = vs ∧ H' = H ∧ Q' = Q ∧ E' = E
  have hl := len _ _ _ _ hsp
  have KX : K.In s.heap := e0.mod.kin.keeps fun b o e => (e0.bs b o e).1
  have lim : s.heap.NoLimit := e0.mod.nolimit.keeps fun b o e => (e0.bs b o e).1
  have kinds : ∀ y ∈ ps.zip us, (defScope st).names.lookup y.1 = some .local ∨ ((defScope st).names.lookup y.1 = some .cell ∧ ((cellsFrom (s.heap.objs.size + 1) (defScope st).names []).lookup y.1).isSome = true) := by
    rintro ⟨n, v⟩ hy
    have hn := S.par n (List.of_mem_zip hy).1
    exact hn.imp id fun q => ⟨q, PySem.W.cellsFrom_some _ _ _ (.inl q)⟩
  obtain ⟨t, ht, hq⟩ := body cdv rfl A outer s H vs Q E hg (hr.deeper _) hsp
  refine codeAny_call_function hr.depth (KX _ _ lk) rfl S.co S.gen rfl (PySem.W.codeRec_of KX hcd) (hb _ _ _ _ (wpAny_newFunctionEnv_cells S.kind kinds fun env he s1 x => ?_))
  subst he
  have I : Inv (cxOf (L2.CX P w) P w K mg base N qual (defScope st) f cdv A outer s H E) [] (start N vs) H s1 := inv_start S hr.hd e0 hl r x
  refine ⟨lim.keeps x.toInCall.keep, codeAny_func (wpAny_mono (ht.run [] s1 _ H _ I hq) (fun fl s' hs => ?_) fun _ _ z => z)⟩
  cases fl with
  | ret u => obtain ⟨v, σ', H', J, rv, q⟩ := hs; exact ⟨v, H', J.os, J.bare, J.base, J.hok, rv, q⟩
  | next => obtain ⟨σ', H', J, q⟩ := hs; exact ⟨V.non, H', J.os, J.bare, J.base, J.hok, (rfl : RelV V.non Value.none), q⟩
  | brk => obtain ⟨_, _, _, q⟩ := hs; exact q.elim
  | cont => obtain ⟨_, _, _, q⟩ := hs; exact q.elim
end
section
variable {X : Cx} {k : Nat} {f C : Addr} {fd : FuncData} {ps : List Str} {sp : Sp} {x : Str} {p pos : Pos} {e : Expr} {es : List Expr} {t : TA} {W : WX}
theorem run_G {pins : List (Addr × Obj)} {σ : L2.St} {H : Hp} {s : Shared} {Q : VK} {us : List Value} {vs : List V} {E : XK} (F : FnG X.prog X.w X.K X.mg X.base k f fd ps sp) (hgd : X.A.guards = some []) (hr : Room k X.A) (hb : Binds X.K fd ps [])
    (hx : PassesAt (L2.CX X.prog X.w) X σ E) (I : Inv X pins σ H s) (r : Vals vs us) (h : sp vs H Q E) : wpAny (model X.prog X.w) X.A (call (.ref f) us) (EP X pins σ Q) X.xe s := by
  have hl : us.length = ps.length := by rw [← r.length]; exact F.len _ _ _ _ h
  have b := hb s us I.kIn (by rw [List.append_nil]; exact hl)
  rw [List.append_nil] at b
  have c := F.run X.A X.stack s H ⟨us, []⟩ us vs Q E hgd hr I.env0 b r h
  refine wpAny_call (codeAny_mono c fun res s' hq => ?_)
  match res, hq with
  | .error er, hq => exact hx pins H s er s' I hq
  | .ok (.ret u), hq => exact I.after hq
theorem pe_callG (F : FnG X.prog X.w X.K X.mg X.base k f fd ps sp) (hgd : X.A.guards = some []) (hr : Room k X.A) (tk : Takes X W) (hg : Gl X x) (hm : X.mg x = some (.ref f)) (hk : PySem.W.keepIn X.K (.ref f) = true) (hb : Binds X.K fd ps [])
    (ha : PA X (e :: es) t) (hdb : (x == ("__debug__" : Str)) = false := by decide) (he : starEach (e :: es) X.env = (false, eval e X.env) :: starEach es X.env := by rfl) (hpl : (backTo pos (starEach es X.env)).any (·.1) = false := by rfl) :
    PE X (.Call (.Name x p) (e :: es) [] pos) (tCallS sp (WE W) t) := by
  refine ⟨fun pins s σ H Q I h => wpAny_Call_Name_kw (ld_glob I hg hm ?_ hdb)⟩
  refine PySem.W.callWith_K (h₀ := X.base) I.ok.mod.kin hk (thn (ha.run pos pins s σ H _ I h) ?_) he hpl
  rintro us s1 ⟨vs, H1, I1, r, q⟩
  exact ⟨I1.kIn, run_G F hgd hr hb (passAt tk σ) I1 r q⟩
theorem pe_callG0 (F : FnG X.prog X.w X.K X.mg X.base k f fd ps sp) (hgd : X.A.guards = some []) (hr : Room k X.A) (tk : Takes X W) (hg : Gl X x) (hm : X.mg x = some (.ref f)) (hk : PySem.W.keepIn X.K (.ref f) = true) (hb : Binds X.K fd ps [])
    (hdb : (x == ("__debug__" : Str)) = false := by decide) : PE X (.Call (.Name x p) [] [] pos) (tCallS sp (WE W) tNil) := by
  refine ⟨fun pins s σ H Q I h => wpAny_Call_Name_kw (ld_glob I hg hm ?_ hdb)⟩
  exact PySem.W.callWith_K0 I.kIn hk (run_G (us := []) F hgd hr hb (passAt tk σ) I .nil h)
end

end DL


set_option maxRecDepth 100000
set_option maxHeartbeats 2000000
/-! DL1: plain data over the abstract heap; a wp-monad; judgements of expressions by data. Own work. -/
namespace DL
open PySem PySem.Spec PyProof.Rows L2

/-- a lambda without parameters, as it lies -/
structure CloR where
  qual : Str
  params : Arguments
  body : Expr
  scope : Scope
  cl : List (Str × Addr)
  pm : Value
  code : Addr
  ctv : Value
abbrev CloR.obj (r : CloR) : Obj := PySem.W.kla_obj "<lambda>" r.qual r.params r.body r.scope r.cl r.pm r.code r.ctv
/-- the very object o stands at a -/
def FixO (a : Addr) (o : Obj) : HO := .ext fun h => h.get? a = some o
/-- a code object of the name q stands at c -/
def CodO (c : Addr) (q : Str) : HO := .ext fun h => ∃ (oc : Obj) (vs : Array Value) (t : Tok), h.get? c = some oc ∧ oc.data = .fields vs ∧ vs[1]? = some (.str q t)
/-- plain data -/
inductive D where
  | non | bl (b : Bool) | int (i : Int) | str (x : Str)
  | tup (ds : List D) | lst (ds : List D) | dic (ks : List Key) (ds : List D)
  | obj (C : Addr) (ns : List Str) (ds : List D) | exc (C : Addr) (ns : List Str) (ds : List D) | pen
  /-- a lambda; its captured values are known (b), or not yet -/
  | clo (b : Bool) (r : CloR) (ds : List D)
  /-- a def of the program as a value -/
  | fnA (a : Addr)
  /-- the script -/
  | scr (K : PySem.W.Frag) (ns : List Int) (tabs : List Addr)

/-- a pen's numbers -/
structure Pen where
  at_ : Int
  dg : Int
  ct : Int
  fd : Int
def penK (c : Addr) (p : Pen) : List (Key × V) := [(.inr "cells", .ref c), (.inr "at", .int p.at_), (.inr "digits", .int p.dg), (.inr "count", .int p.ct), (.inr "fold", .int p.fd)]
structure Pen.Ok (p : Pen) : Prop where
  at0 : 0 ≤ p.at_
  dg0 : 0 ≤ p.dg
  ct0 : 0 ≤ p.ct
  fd0 : 0 ≤ p.fd
  fd1 : p.fd < 2147483123
/-- the first key of a pen -/
def isPen (kvs : List (Key × V)) : Bool := match kvs with
  | (.inr k, _) :: _ => k == ("cells" : Str)
  | _ => false
theorem isPen_pen (c : Addr) (p : Pen) : isPen (penK c p) = true := rfl
theorem penK_inj {c c' : Addr} {p p' : Pen} (h : penK c p = penK c' p') : c = c' ∧ p = p' := by
  obtain ⟨a1, a2, a3, a4⟩ := p
  obtain ⟨b1, b2, b3, b4⟩ := p'
  simp only [penK, List.cons.injEq, Prod.mk.injEq, V.ref.injEq, V.int.injEq, true_and, and_true] at h
  obtain ⟨rfl, rfl, rfl, rfl, rfl⟩ := h
  exact ⟨rfl, rfl⟩

mutual
/-- v stands for d in H; F: what is never changed -/
inductive Has (F : Addr → Prop) (H : Hp) : V → D → Prop
  | non : Has F H .non .non
  | bl (b : Bool) : Has F H (.bl b) (.bl b)
  | int (i : Int) : Has F H (.int i) (.int i)
  | str (x : Str) : Has F H (.str x) (.str x)
  | tup {a : Addr} {vs : List V} {ds : List D} : F a → H a = some (.tup vs) → HasL F H vs ds → Has F H (.ref a) (.tup ds)
  | lst {a : Addr} {vs : List V} {ds : List D} : F a → H a = some (.lst vs) → HasL F H vs ds → Has F H (.ref a) (.lst ds)
  | dic {a : Addr} {kvs : List (Key × V)} {ks : List Key} {ds : List D} : F a → H a = some (.dK kvs) → isPen kvs = false → kvs.map (·.1) = ks → HasL F H (kvs.map (·.2)) ds → Has F H (.ref a) (.dic ks ds)
  | obj {a C dx : Addr} {fs : List (Str × V)} {ns : List Str} {ds : List D} : F a → H a = some (.ins C dx fs) → fs.map (·.1) = ns → HasL F H (fs.map (·.2)) ds → Has F H (.ref a) (.obj C ns ds)
  | pen {a c : Addr} {p : Pen} {ns : List Int} : F a → H a = some (.dK (penK c p)) → p.Ok → F c → H c = some (.lst (ns.map V.int)) → ns.length ≤ 63 → Has F H (.ref a) .pen
  | clo0 {a : Addr} {r : CloR} {ds : List D} : F a → H a = some (FixO a r.obj) → F r.code → H r.code = some (CodO r.code r.qual) → Has F H (.ref a) (.clo false r ds)
  | clo1 {a : Addr} {r : CloR} {vs : List V} {ds : List D} : F a → H a = some (FixO a r.obj) → F r.code → H r.code = some (CodO r.code r.qual) → vs.length = r.cl.length → (∀ p ∈ r.cl.zip vs, F p.1.2 ∧ ∃ u o, RelV p.2 u ∧ o.data = .cell (some u) ∧ H p.1.2 = some (FixO p.1.2 o)) → HasL F H vs ds → Has F H (.ref a) (.clo true r ds)
  | fnA (a : Addr) : Has F H (.ref a) (.fnA a)
  | exc {a C dx : Addr} {fs : List (Str × V)} {ns : List Str} {ds : List D} : F a → H a = some (exo a C (some dx)) → F dx → H dx = some (exd dx fs) → fs.map (·.1) = ns → HasL F H (fs.map (·.2)) ds → Has F H (.ref a) (.exc C ns ds)
  | exc0 {a C : Addr} : F a → H a = some (exo a C none) → Has F H (.ref a) (.exc C [] [])
  | scr {a : Addr} {K : PySem.W.Frag} {ns : List Int} {tabs : List Addr} : ((∃ o, F a ∧ H a = some (.frz o (.lst (ns.map V.int)))) ∨ ∀ H' : Hp, SqL K H' a (ns.map V.int)) → (∀ P ∈ tabs, F P ∧ ∃ ps, H P = some (.tbl ps)) → Has F H (.ref a) (.scr K ns tabs)
inductive HasL (F : Addr → Prop) (H : Hp) : List V → List D → Prop
  | nil : HasL F H [] []
  | cons {v : V} {d : D} {vs : List V} {ds : List D} : Has F H v d → HasL F H vs ds → HasL F H (v :: vs) (d :: ds)
end

/-- the full name of the law's lambdas -/
def qLam : Str := "law.<locals>.<lambda>"
/-- a table of code objects of the law's lambdas -/
structure TblOk (F : Addr → Prop) (H : Hp) (ps : Array Value) : Prop where
  tr : TriplesOk ps.toList
  at_ : ∀ (pos : Pos) (cv : Value), codeAmong pos ps.toList = some cv → ∃ c, cv = .ref c ∧ F c ∧ H c = some (CodO c qLam)
theorem TblOk.mono {F F' : Addr → Prop} {H H' : Hp} {ps : Array Value} (t : TblOk F H ps) (h1 : ∀ c, F c → F' c) (h2 : ∀ c, F c → H c = some (CodO c qLam) → H' c = some (CodO c qLam)) : TblOk F' H' ps :=
  ⟨t.tr, fun pos cv e => let ⟨c, e1, f, e2⟩ := t.at_ pos cv e; ⟨c, e1, h1 c f, h2 c f e2⟩⟩
/-- no pen has been asked more than n times; F is of what is there; the tables are in order -/
structure PenB (F : Addr → Prop) (H : Hp) (n : Nat) : Prop where
  ct : ∀ a c p, H a = some (.dK (penK c p)) → p.ct ≤ (n : Int)
  dom : ∀ a, F a → ∃ o, H a = some o
  tb : ∀ P ps, H P = some (.tbl ps) → TblOk F H ps
/-- an object that stands, but that a pen was asked, that a table of code objects grew -/
def Soft (o : HO) (q : Option HO) : Prop := q = some o ∨ (∃ c p p', o = .dK (penK c p) ∧ q = some (.dK (penK c p')) ∧ (p.Ok → p'.Ok)) ∨ ∃ ps more, o = .tbl ps ∧ q = some (.tbl (ps ++ more))
/-- neither a pen nor a table -/
structure Hard (o : HO) : Prop where
  pen : ∀ c p, o ≠ .dK (penK c p)
  tbl : ∀ ps, o ≠ .tbl ps
theorem Soft.hard {o : HO} {q : Option HO} (s : Soft o q) (h : Hard o) : q = some o := by
  rcases s with s | ⟨c, p, _, e, _⟩ | ⟨ps, _, e, _⟩
  · exact s
  · exact absurd e (h.pen c p)
  · exact absurd e (h.tbl ps)
theorem Soft.trans {o : HO} {H H' : Hp} {a : Addr} (s : Soft o (H a)) (k : ∀ u, H a = some u → Soft u (H' a)) : Soft o (H' a) := by
  rcases s with s | ⟨c, p, p', e, s, ok⟩ | ⟨ps, more, e, s⟩
  · exact k _ s
  · rcases k _ s with s2 | ⟨c2, p2, p2', e2, s2, ok2⟩ | ⟨ps, more, e2, s2⟩
    · exact .inr (.inl ⟨c, p, p', e, s2, ok⟩)
    · obtain ⟨rfl, rfl⟩ := penK_inj (HO.dK.inj e2)
      exact .inr (.inl ⟨c, p, p2', e, s2, fun z => ok2 (ok z)⟩)
    · cases e2
  · rcases k _ s with s2 | ⟨c2, p2, p2', e2, s2, ok2⟩ | ⟨ps2, more2, e2, s2⟩
    · exact .inr (.inr ⟨ps, more, e, s2⟩)
    · cases e2
    · cases e2
      exact .inr (.inr ⟨ps, more ++ more2, e, by rw [s2, Array.append_assoc]⟩)
theorem Soft.some {o : HO} {q : Option HO} (s : Soft o q) : q ≠ none := by
  rcases s with s | ⟨_, _, _, _, s, _⟩ | ⟨_, _, _, s⟩ <;> rw [s] <;> simp
theorem Hard.tup {xs : List V} : Hard (.tup xs) := ⟨fun _ _ e => (by cases e), fun _ e => (by cases e)⟩
theorem Hard.lst {xs : List V} : Hard (.lst xs) := ⟨fun _ _ e => (by cases e), fun _ e => (by cases e)⟩
theorem Hard.ins {C d : Addr} {fs : List (Str × V)} : Hard (.ins C d fs) := ⟨fun _ _ e => (by cases e), fun _ e => (by cases e)⟩
theorem Hard.xd {fs : List (Str × V)} : Hard (.xd fs) := ⟨fun _ _ e => (by cases e), fun _ e => (by cases e)⟩
theorem Hard.ext {φ : Heap → Prop} : Hard (.ext φ) := ⟨fun _ _ e => (by cases e), fun _ e => (by cases e)⟩
theorem Hard.frz {o : Obj} {u : HO} : Hard (.frz o u) := ⟨fun _ _ e => (by cases e), fun _ e => (by cases e)⟩
theorem Hard.dK {kvs : List (Key × V)} (h : isPen kvs = false) : Hard (.dK kvs) := ⟨fun c p e => (by cases e; cases h), fun _ e => (by cases e)⟩
/-- what stood stands, but that pens were asked; F' is F and new ones -/
structure Grow (F : Addr → Prop) (H : Hp) (n : Nat) (F' : Addr → Prop) (H' : Hp) (n' : Nat) : Prop where
  keep : ∀ a o, H a = some o → Soft o (H' a)
  sub : ∀ a, F a → F' a
  new : ∀ a, F' a → F a ∨ H a = none
  pb : PenB F' H' n'
  le : n ≤ n'

theorem Grow.keepL {F F' : Addr → Prop} {H H' : Hp} {n n' : Nat} (g : Grow F H n F' H' n') {a : Addr} {o : HO} (h : H a = some o) (hn : Hard o) : H' a = some o := (g.keep a o h).hard hn

/-- what stood in F stands, but that pens were asked; F' has F -/
structure Later (F : Addr → Prop) (H : Hp) (n : Nat) (F' : Addr → Prop) (H' : Hp) (n' : Nat) : Prop where
  keep : ∀ a o, F a → H a = some o → Soft o (H' a)
  sub : ∀ a, F a → F' a
  le : n ≤ n'
theorem Grow.later {F F' : Addr → Prop} {H H' : Hp} {n n' : Nat} (g : Grow F H n F' H' n') : Later F H n F' H' n' := ⟨fun a o _ h => g.keep a o h, g.sub, g.le⟩
theorem Later.keepL {F F' : Addr → Prop} {H H' : Hp} {n n' : Nat} (g : Later F H n F' H' n') {a : Addr} {o : HO} (f : F a) (h : H a = some o) (hn : Hard o) : H' a = some o := (g.keep a o f h).hard hn
theorem Later.refl {F : Addr → Prop} {H : Hp} {n : Nat} : Later F H n F H n := ⟨fun _ _ _ h => .inl h, fun _ h => h, Nat.le_refl _⟩
theorem Later.trans {F F1 F2 : Addr → Prop} {H H1 H2 : Hp} {n n1 n2 : Nat} (a : Later F H n F1 H1 n1) (b : Later F1 H1 n1 F2 H2 n2) : Later F H n F2 H2 n2 where
  keep := fun x o f h => (a.keep x o f h).trans fun u e => b.keep x u (a.sub x f) e
  sub := fun x h => b.sub x (a.sub x h)
  le := Nat.le_trans a.le b.le

mutual
theorem Has.later {F F' : Addr → Prop} {H H' : Hp} {n n' : Nat} (g : Later F H n F' H' n') : ∀ {v : V} {d : D}, Has F H v d → Has F' H' v d
  | _, _, .non => .non
  | _, _, .bl b => .bl b
  | _, _, .int i => .int i
  | _, _, .str x => .str x
  | _, _, .tup f h l => .tup (g.sub _ f) (g.keepL f h .tup) (HasL.later g l)
  | _, _, .lst f h l => .lst (g.sub _ f) (g.keepL f h .lst) (HasL.later g l)
  | _, _, .dic f h q k l => .dic (g.sub _ f) (g.keepL f h (.dK q)) q k (HasL.later g l)
  | _, _, .fnA a => .fnA a
  | _, _, .exc f h fd hd z l => .exc (g.sub _ f) (g.keepL f h .ext) (g.sub _ fd) (g.keepL fd hd .ext) z (HasL.later g l)
  | _, _, .exc0 f h => .exc0 (g.sub _ f) (g.keepL f h .ext)
  | _, _, .obj f h k l => .obj (g.sub _ f) (g.keepL f h .ins) k (HasL.later g l)
  | _, _, .pen f h ok fc hc hl => by
    have hc' := g.keepL fc hc .lst
    rcases g.keep _ _ f h with h | ⟨c, p, p', e, h, k⟩ | ⟨ps, _, e, _⟩
    · exact .pen (g.sub _ f) h ok (g.sub _ fc) hc' hl
    · obtain ⟨rfl, rfl⟩ := penK_inj (HO.dK.inj e)
      exact .pen (g.sub _ f) h (k ok) (g.sub _ fc) hc' hl
    · cases e
  | _, _, .clo0 f h fc hc => .clo0 (g.sub _ f) (g.keepL f h .ext) (g.sub _ fc) (g.keepL fc hc .ext)
  | _, _, .clo1 f h fc hc hl hs l => .clo1 (g.sub _ f) (g.keepL f h .ext) (g.sub _ fc) (g.keepL fc hc .ext) hl (fun p hp => let ⟨a, u, o, r, dd, e⟩ := hs p hp; ⟨g.sub _ a, u, o, r, dd, g.keepL a e .ext⟩) (HasL.later g l)
  | _, _, .scr h ht => .scr (h.imp_left fun ⟨o, f, e⟩ => ⟨o, g.sub _ f, g.keepL f e .frz⟩) fun P hP => by
    obtain ⟨f, ps, e⟩ := ht P hP
    refine ⟨g.sub _ f, ?_⟩
    rcases g.keep _ _ f e with e | ⟨_, _, _, e, _⟩ | ⟨_, more, _, e⟩
    · exact ⟨ps, e⟩
    · cases e
    · exact ⟨_, e⟩
theorem HasL.later {F F' : Addr → Prop} {H H' : Hp} {n n' : Nat} (g : Later F H n F' H' n') : ∀ {vs : List V} {ds : List D}, HasL F H vs ds → HasL F' H' vs ds
  | _, _, .nil => .nil
  | _, _, .cons h l => .cons (Has.later g h) (HasL.later g l)
end
theorem Has.mono {F F' : Addr → Prop} {H H' : Hp} {n n' : Nat} (g : Grow F H n F' H' n') {v : V} {d : D} (h : Has F H v d) : Has F' H' v d := h.later g.later
theorem HasL.mono {F F' : Addr → Prop} {H H' : Hp} {n n' : Nat} (g : Grow F H n F' H' n') {v : List V} {d : List D} (h : HasL F H v d) : HasL F' H' v d := h.later g.later

theorem Grow.trans {F F1 F2 : Addr → Prop} {H H1 H2 : Hp} {n n1 n2 : Nat} (a : Grow F H n F1 H1 n1) (b : Grow F1 H1 n1 F2 H2 n2) : Grow F H n F2 H2 n2 where
  keep := fun x o h => (a.keep x o h).trans fun u e => b.keep x u e
  sub := fun x h => b.sub x (a.sub x h)
  new := fun x h => by
    rcases b.new x h with h | h
    · exact a.new x h
    · refine .inr ?_
      cases q : H x with
      | none => rfl
      | some o => exact absurd h (a.keep x o q).some
  pb := b.pb
  le := Nat.le_trans a.le b.le
theorem Grow.refl {F : Addr → Prop} {H : Hp} {n : Nat} (pb : PenB F H n) : Grow F H n F H n := ⟨fun _ _ h => .inl h, fun _ h => h, fun _ h => .inl h, pb, Nat.le_refl _⟩
/-- F and p -/
def plusF (F : Addr → Prop) (p : Addr) : Addr → Prop := fun a => F a ∨ a = p
/-- a new object is laid, never to be changed -/
theorem Grow.laid {F : Addr → Prop} {H : Hp} {n : Nat} {p : Addr} {o : HO} (pb : PenB F H n) (hp : H p = none) (hn : Hard o) : Grow F H n (plusF F p) (upd H p o) n where
  keep := fun a u h => .inl (by rw [upd_ne (ne_of_none h hp)]; exact h)
  sub := fun a h => .inl h
  new := fun a h => h.elim .inl fun e => .inr (by rw [e]; exact hp)
  pb := ⟨fun a c q h => by
    by_cases e : a = p
    · subst e
      rw [upd_same] at h
      exact absurd (Option.some.inj h) (hn.pen c q)
    · rw [upd_ne e] at h
      exact pb.ct a c q h, fun a f => by
    by_cases e : a = p
    · subst e
      exact ⟨_, upd_same⟩
    · rw [upd_ne e]
      exact pb.dom a (f.resolve_right e), fun P ps e => by
    by_cases hP : P = p
    · subst hP
      rw [upd_same] at e
      exact absurd (Option.some.inj e) (hn.tbl ps)
    · rw [upd_ne hP] at e
      exact (pb.tb P ps e).mono (fun _ => .inl) fun c _ q => by rw [upd_ne (ne_of_none q hp)]; exact q⟩
  le := Nat.le_refl _
theorem PenB.put {F : Addr → Prop} {H : Hp} {n : Nat} {a : Addr} {o : HO} (pb : PenB F H n) (nf : ¬ F a) (hn : Hard o) : PenB F (upd H a o) n where
  ct := fun b c q h => by
    by_cases e : b = a
    · subst e
      rw [upd_same] at h
      exact absurd (Option.some.inj h) (hn.pen c q)
    · rw [upd_ne e] at h
      exact pb.ct b c q h
  dom := fun b f => by
    rw [upd_ne (fun z => nf (by rw [← z]; exact f))]
    exact pb.dom b f
  tb := fun P ps e => by
    by_cases hP : P = a
    · subst hP
      rw [upd_same] at e
      exact absurd (Option.some.inj e) (hn.tbl ps)
    · rw [upd_ne hP] at e
      exact (pb.tb P ps e).mono (fun _ f => f) fun c f q => by rw [upd_ne (fun z => nf (by rw [← z]; exact f))]; exact q
theorem PenB.sup {F F' : Addr → Prop} {H : Hp} {n : Nat} (pb : PenB F H n) (hs : ∀ b, F b → F' b) (hd : ∀ b, F' b → ∃ o, H b = some o) : PenB F' H n := ⟨pb.ct, hd, fun P ps e => (pb.tb P ps e).mono hs fun _ _ q => q⟩
theorem PenB.out {F : Addr → Prop} {H : Hp} {n : Nat} {a : Addr} (pb : PenB F H n) (h : H a = none) : ¬ F a := fun f => by
  obtain ⟨o, e⟩ := pb.dom a f
  rw [h] at e
  cases e
theorem plusF_same {F : Addr → Prop} {p : Addr} : plusF F p p := .inr rfl

/-! ### the monad -/
structure XD where
  C : Addr
  ns : List Str
  ds : List D
/-- what is wanted of a value, of an error; n: how often pens were asked -/
def Wm (α : Type) : Type := (α → Nat → Prop) → (XD → Nat → Prop) → Nat → Prop
namespace Wm
protected def pure {α : Type} (a : α) : Wm α := fun K _ n => K a n
protected def bind {α β : Type} (m : Wm α) (f : α → Wm β) : Wm β := fun K X n => m (fun a n' => f a K X n') X n
def fail {α : Type} : Wm α := fun _ _ _ => False
def raise {α : Type} (x : XD) : Wm α := fun _ X n => X x n
def need (p : Prop) : Wm Unit := fun K _ n => p ∧ K () n
instance : Monad Wm where
  pure := Wm.pure
  bind := Wm.bind
end Wm
def XFalse : XD → Nat → Prop := fun _ _ => False

/-! ### the slots -/
/-- a thing of one's own: where it stands (if that matters), what it would be, were it never changed from here on -/
structure Own where
  at_ : Option Addr
  d : D
inductive SV where
  | d (x : D)
  /-- a thing of one's own, that is changed yet: what it would be, were it never changed from here on -/
  | m (x : Own)
abbrev SV.ml (ds : List D) : SV := .m ⟨none, .lst ds⟩
abbrev Env' := List (Option SV)
/-- the object o is x, its parts never changed -/
def OwnR (F : Addr → Prop) (H : Hp) (o : HO) : D → Prop
  | .lst ds => ∃ vs, o = .lst vs ∧ HasL F H vs ds
  | .obj C ns ds => ∃ dx fs, o = .ins C dx fs ∧ fs.map (·.1) = ns ∧ HasL F H (fs.map (·.2)) ds
  | _ => False
theorem OwnR.hard {F : Addr → Prop} {H : Hp} {o : HO} {x : D} (h : OwnR F H o x) : Hard o := by
  cases x with
  | lst ds => obtain ⟨vs, rfl, _⟩ := h; exact .lst
  | obj C ns ds => obtain ⟨dx, fs, rfl, _⟩ := h; exact .ins
  | _ => exact h.elim
theorem OwnR.later {F F' : Addr → Prop} {H H' : Hp} {n n' : Nat} (g : Later F H n F' H' n') {o : HO} {x : D} (h : OwnR F H o x) : OwnR F' H' o x := by
  cases x with
  | lst ds => obtain ⟨vs, rfl, l⟩ := h; exact ⟨vs, rfl, l.later g⟩
  | obj C ns ds => obtain ⟨dx, fs, rfl, z, l⟩ := h; exact ⟨dx, fs, rfl, z, l.later g⟩
  | _ => exact h.elim
theorem OwnR.has {F : Addr → Prop} {H : Hp} {o : HO} {x : D} {a : Addr} (h : OwnR F H o x) (f : F a) (e : H a = some o) : Has F H (.ref a) x := by
  cases x with
  | lst ds => obtain ⟨vs, rfl, l⟩ := h; exact .lst f e l
  | obj C ns ds => obtain ⟨dx, fs, rfl, z, l⟩ := h; exact .obj f e z l
  | _ => exact h.elim
def HasV (F : Addr → Prop) (H : Hp) : V → SV → Prop
  | v, .d x => Has F H v x
  | v, .m x => ∃ a o, v = .ref a ∧ H a = some o ∧ OwnR F H o x.d ∧ ¬ F a ∧ ∀ b, x.at_ = some b → a = b
structure HasS (F : Addr → Prop) (H : Hp) (n : Nat) (σ : L2.St) (ρ : Env') : Prop where
  pb : PenB F H n
  len : σ.length = ρ.length
  at_ : ∀ (i : Nat) (x : SV), ρ[i]? = some (some x) → ∃ v, σ[i]? = some (some v) ∧ HasV F H v x
theorem HasV.mono {F F' : Addr → Prop} {H H' : Hp} {n n' : Nat} (g : Grow F H n F' H' n') {v : V} {x : SV} (h : HasV F H v x) : HasV F' H' v x := by
  cases x with
  | d x => exact Has.mono g h
  | m x =>
    obtain ⟨a, o, e, ha, l, nf, hat⟩ := h
    refine ⟨a, o, e, g.keepL ha l.hard, l.later g.later, fun f => ?_, hat⟩
    rcases g.new a f with f | f
    · exact nf f
    · rw [ha] at f; cases f
theorem HasS.mono {F F' : Addr → Prop} {H H' : Hp} {n n' : Nat} {σ : L2.St} {ρ : Env'} (h : HasS F H n σ ρ) (g : Grow F H n F' H' n') : HasS F' H' n' σ ρ :=
  ⟨g.pb, h.len, fun i x e => let ⟨v, a, b⟩ := h.at_ i x e; ⟨v, a, b.mono g⟩⟩

/-- an own error, as it lies -/
def HasX (F : Addr → Prop) (H : Hp) (cls : Value) (od : Option Addr) (x : XD) : Prop :=
  cls = .ref x.C ∧ ∃ d fs, od = some d ∧ H d = some (.xd fs) ∧ fs.map (·.1) = x.ns ∧ HasL F H (fs.map (·.2)) x.ds

/-- no starred expression -/
def plainE : Expr → Bool
  | .Starred _ _ => false
  | _ => true
theorem star_plain {e : Expr} {es : List Expr} {env : Env} (h : plainE e = true) : starEach (e :: es) env = (false, eval e env) :: starEach es env := by
  cases e <;> first | rfl | cases h
/-! ### the judgements -/
abbrev TD (α : Type) := Env' → Wm α
/-- what the reading of an expression is given -/
def RunE (W : WX) (te : TE) (t : TD D) : Prop := ∀ (F : Addr → Prop) (H : Hp) (n : Nat) (σ : L2.St) (ρ : Env') (K : D → Nat → Prop) (X : XD → Nat → Prop) (Q : VK), HasS F H n σ ρ → t ρ K X n →
  (∀ v d F' H' n', Grow F H n F' H' n' → Has F' H' v d → K d n' → Q v H') →
  (∀ cls od xd F' H' n', Grow F H n F' H' n' → HasX F' H' cls od xd → X xd n' → W cls od σ H') → te σ H Q
def RunT (W : WX) (tt : TT) (t : TD Bool) : Prop := ∀ (F : Addr → Prop) (H : Hp) (n : Nat) (σ : L2.St) (ρ : Env') (K : Bool → Nat → Prop) (X : XD → Nat → Prop) (Q : Bool → Hp → Prop), HasS F H n σ ρ → t ρ K X n →
  (∀ b F' H' n', Grow F H n F' H' n' → K b n' → Q b H') →
  (∀ cls od xd F' H' n', Grow F H n F' H' n' → HasX F' H' cls od xd → X xd n' → W cls od σ H') → tt σ H Q
def RunA (W : WX) (ta : TA) (t : TD (List D)) : Prop := ∀ (F : Addr → Prop) (H : Hp) (n : Nat) (σ : L2.St) (ρ : Env') (K : List D → Nat → Prop) (X : XD → Nat → Prop) (Q : List V → Hp → Prop), HasS F H n σ ρ → t ρ K X n →
  (∀ vs ds F' H' n', Grow F H n F' H' n' → HasL F' H' vs ds → K ds n' → Q vs H') →
  (∀ cls od xd F' H' n', Grow F H n F' H' n' → HasX F' H' cls od xd → X xd n' → W cls od σ H') → ta σ H Q
structure DE {ι : Type} (X : ι → Cx) (W : WX) (e : Expr) (t : TD D) : Prop where
  ex : ∃ te, (∀ i, PE (X i) e te) ∧ RunE W te t
structure DT {ι : Type} (X : ι → Cx) (W : WX) (e : Expr) (t : TD Bool) : Prop where
  ex : ∃ te, (∀ i, PT (X i) e te) ∧ RunT W te t
/-- .. whatever its whole is (and, or) -/
structure DW {ι : Type} (X : ι → Cx) (W : WX) (e : Expr) (t : TD Bool) : Prop where
  ex : ∃ te, (∀ i, PW (X i) e te) ∧ RunT W te t
structure DA {ι : Type} (X : ι → Cx) (W : WX) (es : List Expr) (t : TD (List D)) : Prop where
  ex : ∃ ta, (∀ i, PA (X i) es ta) ∧ RunA W ta t

section
variable {ι : Type} {X : ι → Cx} {W : WX}
/-! ### names, constants -/
def getD (i : Nat) : TD D := fun ρ => match ρ[i]? with
  | some (some (.d x)) => pure x
  | _ => Wm.fail
theorem DE.var {i : Nat} {e : Expr} (h : ∀ j, PE (X j) e (tVar i)) : DE X W e (getD i) := ⟨_, h, fun F H n σ ρ K Kx Q hs ht hq _ => by
  have ht : (match ρ[i]? with
    | some (some (.d x)) => (pure x : Wm D)
    | _ => Wm.fail) K Kx n := ht
  match e : ρ[i]? with
  | some (some (.d x)) =>
    rw [e] at ht
    obtain ⟨v, e1, e2⟩ := hs.at_ _ _ e
    exact ⟨v, e1, hq v x F H n (.refl hs.pb) e2 ht⟩
  | some (some (.m _)) => rw [e] at ht; exact ht.elim
  | some none => rw [e] at ht; exact ht.elim
  | none => rw [e] at ht; exact ht.elim⟩
theorem DE.const {e : Expr} {v : V} {d : D} (h : ∀ j, PE (X j) e (tC v)) (hd : ∀ F H, Has F H v d) : DE X W e (fun _ => pure d) := ⟨_, h, fun F H n σ ρ K Kx Q hs ht hq _ => hq v d F H n (.refl hs.pb) (hd F H) ht⟩
theorem DE.int {i j pos} : DE X W (.Constant (.int i) j pos) (fun _ => pure (.int i)) := .const (fun _ => pe_int) fun _ _ => .int i
theorem DE.bl {b j pos} : DE X W (.Constant (.bool b) j pos) (fun _ => pure (.bl b)) := .const (fun _ => pe_bl) fun _ _ => .bl b
theorem DE.non {j pos} : DE X W (.Constant .none j pos) (fun _ => pure .non) := .const (fun _ => pe_non) fun _ _ => .non
theorem DE.str {x j pos} : DE X W (.Constant (.str x) j pos) (fun _ => pure (.str x)) := .const (fun _ => pe_str) fun _ _ => .str x

/-! ### argument lists, displays -/
theorem DA.nil : DA X W [] (fun _ => pure []) := ⟨_, fun _ => pa_nil, fun F H n σ ρ K Kx Q hs ht hq _ => hq [] [] F H n (.refl hs.pb) .nil ht⟩
theorem DA.cons {e : Expr} {es : List Expr} {t : TD D} {u : TD (List D)} (h1 : DE X W e t) (h2 : DA X W es u) (hp : plainE e = true := by rfl) :
    DA X W (e :: es) (fun ρ => do let d ← t ρ; let ds ← u ρ; pure (d :: ds)) := by
  obtain ⟨te, p1, r1⟩ := h1
  obtain ⟨ta, p2, r2⟩ := h2
  refine ⟨_, fun i => pa_cons (p1 i) (p2 i) (star_plain hp), fun F H n σ ρ K Kx Q hs ht hq hx => ?_⟩
  refine r1 F H n σ ρ _ Kx _ hs ht (fun v d F1 H1 n1 g1 hv ht1 => ?_) hx
  refine r2 F1 H1 n1 σ ρ _ Kx _ (hs.mono g1) ht1 (fun vs ds F2 H2 n2 g2 hvs ht2 => ?_) fun cls od xd F' H' n' g => hx cls od xd F' H' n' (g1.trans g)
  exact hq (v :: vs) (d :: ds) F2 H2 n2 (g1.trans g2) (.cons (hv.mono g2) hvs) ht2
theorem HasL.len {F : Addr → Prop} {H : Hp} : ∀ {vs : List V} {ds : List D}, HasL F H vs ds → vs.length = ds.length
  | _, _, .nil => rfl
  | _, _, .cons _ l => by simp [HasL.len l]
/-- at most a list's line -/
def Fits (n : Nat) : Prop := n ≤ sizeLine
theorem DE.tup {es : List Expr} {t : TD (List D)} {x1 pos} (h : DA X W es t) : DE X W (.Tuple es x1 pos) (fun ρ => do let ds ← t ρ; Wm.need (Fits ds.length); pure (.tup ds)) := by
  obtain ⟨ta, p, r⟩ := h
  refine ⟨_, fun i => pe_tup (p i), fun F H n σ ρ K Kx Q hs ht hq hx => ?_⟩
  refine r F H n σ ρ _ Kx _ hs ht (fun vs ds F1 H1 n1 g1 hvs ht1 => ?_) hx
  refine ⟨by rw [hvs.len]; exact ht1.1, fun a ha => ?_⟩
  have g2 : Grow F1 H1 n1 (plusF F1 a) (upd H1 a (.tup vs)) n1 := .laid g1.pb ha .tup
  exact hq _ (.tup ds) _ _ n1 (g1.trans g2) (.tup plusF_same upd_same (hvs.mono g2)) ht1.2
theorem DE.lst {es : List Expr} {t : TD (List D)} {pos} (h : DA X W es t) : DE X W (.List es pos) (fun ρ => do let ds ← t ρ; Wm.need (Fits ds.length); pure (.lst ds)) := by
  obtain ⟨ta, p, r⟩ := h
  refine ⟨_, fun i => pe_lst (p i), fun F H n σ ρ K Kx Q hs ht hq hx => ?_⟩
  refine r F H n σ ρ _ Kx _ hs ht (fun vs ds F1 H1 n1 g1 hvs ht1 => ?_) hx
  refine ⟨by rw [hvs.len]; exact ht1.1, fun a ha => ?_⟩
  have g2 : Grow F1 H1 n1 (plusF F1 a) (upd H1 a (.lst vs)) n1 := .laid g1.pb ha .lst
  exact hq _ (.lst ds) _ _ n1 (g1.trans g2) (.lst plusF_same upd_same (hvs.mono g2)) ht1.2

/-! ### operators by values -/
/-- the reading r of two values is φ of their data -/
def Sem2 (r : R2) (φ : D → D → Wm D) : Prop := ∀ (F : Addr → Prop) (H : Hp) (n : Nat) (x y : V) (a b : D) (K : D → Nat → Prop) (Q : VK), PenB F H n → Has F H x a → Has F H y b → φ a b K XFalse n →
  (∀ v d F' H' n', Grow F H n F' H' n' → Has F' H' v d → K d n' → Q v H') → r x y H Q
def Sem1 (r : V → Hp → VK → Prop) (φ : D → Wm D) : Prop := ∀ (F : Addr → Prop) (H : Hp) (n : Nat) (x : V) (a : D) (K : D → Nat → Prop) (Q : VK), PenB F H n → Has F H x a → φ a K XFalse n →
  (∀ v d F' H' n', Grow F H n F' H' n' → Has F' H' v d → K d n' → Q v H') → r x H Q
def SemL (r : List V → Hp → VK → Prop) (φ : List D → Wm D) : Prop := ∀ (F : Addr → Prop) (H : Hp) (n : Nat) (xs : List V) (as : List D) (K : D → Nat → Prop) (Q : VK), PenB F H n → HasL F H xs as → φ as K XFalse n →
  (∀ v d F' H' n', Grow F H n F' H' n' → Has F' H' v d → K d n' → Q v H') → r xs H Q
/-- what raises nothing -/
def calm {α : Type} (m : Wm α) : Wm α := fun K _ n => m K XFalse n
theorem DE.op2 {a b e : Expr} {r : R2} {φ : D → D → Wm D} {t u : TD D} (hp : ∀ i ta tb, PE (X i) a ta → PE (X i) b tb → PE (X i) e (tOp r ta tb)) (hr : Sem2 r φ) (h1 : DE X W a t) (h2 : DE X W b u) :
    DE X W e (fun ρ => do let x ← t ρ; let y ← u ρ; calm (φ x y)) := by
  obtain ⟨te, p1, r1⟩ := h1
  obtain ⟨tu, p2, r2⟩ := h2
  refine ⟨_, fun i => hp i _ _ (p1 i) (p2 i), fun F H n σ ρ K Kx Q hs ht hq hx => ?_⟩
  refine r1 F H n σ ρ _ Kx _ hs ht (fun v d F1 H1 n1 g1 hv ht1 => ?_) hx
  refine r2 F1 H1 n1 σ ρ _ Kx _ (hs.mono g1) ht1 (fun w d2 F2 H2 n2 g2 hw ht2 => ?_) fun cls od xd F' H' n' g => hx cls od xd F' H' n' (g1.trans g)
  exact hr F2 H2 n2 v w d d2 K Q g2.pb (hv.mono g2) hw ht2 fun v3 d3 F3 H3 n3 g3 => hq v3 d3 F3 H3 n3 (g1.trans (g2.trans g3))
theorem DE.op1 {a e : Expr} {r : V → Hp → VK → Prop} {φ : D → Wm D} {t : TD D} (hp : ∀ i ta, PE (X i) a ta → PE (X i) e (tUn r ta)) (hr : Sem1 r φ) (h1 : DE X W a t) :
    DE X W e (fun ρ => do let x ← t ρ; calm (φ x)) := by
  obtain ⟨te, p1, r1⟩ := h1
  refine ⟨_, fun i => hp i _ (p1 i), fun F H n σ ρ K Kx Q hs ht hq hx => ?_⟩
  refine r1 F H n σ ρ _ Kx _ hs ht (fun v d F1 H1 n1 g1 hv ht1 => ?_) hx
  exact hr F1 H1 n1 v d K Q g1.pb hv ht1 fun v3 d3 F3 H3 n3 g3 => hq v3 d3 F3 H3 n3 (g1.trans g3)
theorem DE.opL {es : List Expr} {e : Expr} {r : List V → Hp → VK → Prop} {φ : List D → Wm D} {t : TD (List D)} (hp : ∀ i ta, PA (X i) es ta → PE (X i) e (tCB r ta)) (hr : SemL r φ) (h1 : DA X W es t) :
    DE X W e (fun ρ => do let xs ← t ρ; calm (φ xs)) := by
  obtain ⟨te, p1, r1⟩ := h1
  refine ⟨_, fun i => hp i _ (p1 i), fun F H n σ ρ K Kx Q hs ht hq hx => ?_⟩
  refine r1 F H n σ ρ _ Kx _ hs ht (fun vs ds F1 H1 n1 g1 hv ht1 => ?_) hx
  exact hr F1 H1 n1 vs ds K Q g1.pb hv ht1 fun v3 d3 F3 H3 n3 g3 => hq v3 d3 F3 H3 n3 (g1.trans g3)

/-! ### tests -/
theorem DT.val {e : Expr} {t : TD D} (h : DE X W e t) (he : ∀ i whole, isTrue e (X i).env whole = (do let v ← whole; standAt e.pos; holding [v] (truthy v)) := by intro _ _; rfl) :
    DT X W e (fun ρ => do match ← t ρ with | .bl b => pure b | _ => Wm.fail) := by
  obtain ⟨te, p1, r1⟩ := h
  refine ⟨_, fun i => pt_val (p1 i) (he i), fun F H n σ ρ K Kx Q hs ht hq hx => ?_⟩
  refine r1 F H n σ ρ _ Kx _ hs ht (fun v d F1 H1 n1 g1 hv ht1 => ?_) hx
  cases hv with
  | bl b => exact ⟨b, rfl, hq b F1 H1 n1 g1 ht1⟩
  | _ => exact ht1.elim
theorem DT.cmp {a b : Expr} {op : CmpOp} {pos} {r : R2} {φ : D → D → Wm D} {t u : TD D} (ho : ∀ i, OpR (X i) (compareOp op) r) (hr : Sem2 r φ) (h1 : DE X W a t) (h2 : DE X W b u) (hm : behindInMarks op b = false := by first | exact nomark _ | rfl) :
    DT X W (.Compare a [op] [b] pos) (fun ρ => do let x ← t ρ; let y ← u ρ; match ← calm (φ x y) with | .bl b => pure b | _ => Wm.fail) := by
  obtain ⟨te, p1, r1⟩ := h1
  obtain ⟨tu, p2, r2⟩ := h2
  refine ⟨_, fun i => pt_cmpR (ho i) (p1 i) (p2 i) hm, fun F H n σ ρ K Kx Q hs ht hq hx => ?_⟩
  refine r1 F H n σ ρ _ Kx _ hs ht (fun v d F1 H1 n1 g1 hv ht1 => ?_) hx
  refine r2 F1 H1 n1 σ ρ _ Kx _ (hs.mono g1) ht1 (fun w d2 F2 H2 n2 g2 hw ht2 => ?_) fun cls od xd F' H' n' g => hx cls od xd F' H' n' (g1.trans g)
  refine hr F2 H2 n2 v w d d2 _ _ g2.pb (hv.mono g2) hw ht2 fun v3 d3 F3 H3 n3 g3 hv3 ht3 => ?_
  cases hv3 with
  | bl b => exact ⟨b, rfl, hq b F3 H3 n3 (g1.trans (g2.trans g3)) ht3⟩
  | _ => exact ht3.elim
theorem DT.not {a : Expr} {t : TD Bool} {pos} (h : DT X W a t) : DT X W (.UnaryOp .Not a pos) (fun ρ => do let b ← t ρ; pure (!b)) := by
  obtain ⟨te, p1, r1⟩ := h
  exact ⟨_, fun i => pt_not (p1 i), fun F H n σ ρ K Kx Q hs ht hq hx => r1 F H n σ ρ _ Kx _ hs ht (fun b F1 H1 n1 g1 ht1 => hq (!b) F1 H1 n1 g1 ht1) hx⟩
theorem DW.pt {e : Expr} {t : TD Bool} (h : DW X W e t) : DT X W e t := let ⟨te, p, r⟩ := h; ⟨te, fun i => (p i).pt, r⟩
theorem DW.and1 {a : Expr} {t : TD Bool} {pos} (h : DT X W a t) : DW X W (.BoolOp .And [a] pos) t := let ⟨te, p, r⟩ := h; ⟨te, fun i => pw_and1 (p i), r⟩
theorem DW.or1 {a : Expr} {t : TD Bool} {pos} (h : DT X W a t) : DW X W (.BoolOp .Or [a] pos) t := let ⟨te, p, r⟩ := h; ⟨te, fun i => pw_or1 (p i), r⟩
theorem DW.and {a b : Expr} {rest : List Expr} {t u : TD Bool} {pos} (h1 : DT X W a t) (h2 : DW X W (.BoolOp .And (b :: rest) pos) u) : DW X W (.BoolOp .And (a :: b :: rest) pos) (fun ρ => do if ← t ρ then u ρ else pure false) := by
  obtain ⟨te, p1, r1⟩ := h1
  obtain ⟨tu, p2, r2⟩ := h2
  refine ⟨_, fun i => pw_and (p1 i) (p2 i), fun F H n σ ρ K Kx Q hs ht hq hx => ?_⟩
  refine r1 F H n σ ρ _ Kx _ hs ht (fun b F1 H1 n1 g1 ht1 => ?_) hx
  cases b with
  | true => exact iteT (r2 F1 H1 n1 σ ρ K Kx Q (hs.mono g1) ht1 (fun b F2 H2 n2 g2 => hq b F2 H2 n2 (g1.trans g2)) fun cls od xd F' H' n' g => hx cls od xd F' H' n' (g1.trans g))
  | false => exact iteF (hq false F1 H1 n1 g1 ht1)
theorem DW.or {a b : Expr} {rest : List Expr} {t u : TD Bool} {pos} (h1 : DT X W a t) (h2 : DW X W (.BoolOp .Or (b :: rest) pos) u) : DW X W (.BoolOp .Or (a :: b :: rest) pos) (fun ρ => do if ← t ρ then pure true else u ρ) := by
  obtain ⟨te, p1, r1⟩ := h1
  obtain ⟨tu, p2, r2⟩ := h2
  refine ⟨_, fun i => pw_or (p1 i) (p2 i), fun F H n σ ρ K Kx Q hs ht hq hx => ?_⟩
  refine r1 F H n σ ρ _ Kx _ hs ht (fun b F1 H1 n1 g1 ht1 => ?_) hx
  cases b with
  | true => exact iteT (hq true F1 H1 n1 g1 ht1)
  | false => exact iteF (r2 F1 H1 n1 σ ρ K Kx Q (hs.mono g1) ht1 (fun b F2 H2 n2 g2 => hq b F2 H2 n2 (g1.trans g2)) fun cls od xd F' H' n' g => hx cls od xd F' H' n' (g1.trans g))

/-! ### the same as values -/
theorem DE.one {op} {a : Expr} {t : TD D} {pos} (h : DE X W a t) : DE X W (.BoolOp op [a] pos) t := let ⟨te, p, r⟩ := h; ⟨te, fun i => pe_one (p i), r⟩
theorem DE.and {a b : Expr} {rest : List Expr} {t u : TD D} {pos} (h1 : DE X W a t) (h2 : DE X W (.BoolOp .And (b :: rest) pos) u) : DE X W (.BoolOp .And (a :: b :: rest) pos) (fun ρ => do match ← t ρ with | .bl true => u ρ | .bl false => pure (.bl false) | _ => Wm.fail) := by
  obtain ⟨te, p1, r1⟩ := h1
  obtain ⟨tu, p2, r2⟩ := h2
  refine ⟨_, fun i => pe_and (p1 i) (p2 i), fun F H n σ ρ K Kx Q hs ht hq hx => ?_⟩
  refine r1 F H n σ ρ _ Kx _ hs ht (fun v d F1 H1 n1 g1 hv ht1 => ?_) hx
  cases hv with
  | bl b =>
    cases b with
    | true => exact ⟨true, rfl, iteT (r2 F1 H1 n1 σ ρ K Kx Q (hs.mono g1) ht1 (fun v d F2 H2 n2 g2 => hq v d F2 H2 n2 (g1.trans g2)) fun cls od xd F' H' n' g => hx cls od xd F' H' n' (g1.trans g))⟩
    | false => exact ⟨false, rfl, iteF (hq _ _ F1 H1 n1 g1 (.bl false) ht1)⟩
  | _ => exact ht1.elim
theorem DE.or {a b : Expr} {rest : List Expr} {t u : TD D} {pos} (h1 : DE X W a t) (h2 : DE X W (.BoolOp .Or (b :: rest) pos) u) : DE X W (.BoolOp .Or (a :: b :: rest) pos) (fun ρ => do match ← t ρ with | .bl true => pure (.bl true) | .bl false => u ρ | _ => Wm.fail) := by
  obtain ⟨te, p1, r1⟩ := h1
  obtain ⟨tu, p2, r2⟩ := h2
  refine ⟨_, fun i => pe_or (p1 i) (p2 i), fun F H n σ ρ K Kx Q hs ht hq hx => ?_⟩
  refine r1 F H n σ ρ _ Kx _ hs ht (fun v d F1 H1 n1 g1 hv ht1 => ?_) hx
  cases hv with
  | bl b =>
    cases b with
    | true => exact ⟨true, rfl, iteT (hq _ _ F1 H1 n1 g1 (.bl true) ht1)⟩
    | false => exact ⟨false, rfl, iteF (r2 F1 H1 n1 σ ρ K Kx Q (hs.mono g1) ht1 (fun v d F2 H2 n2 g2 => hq v d F2 H2 n2 (g1.trans g2)) fun cls od xd F' H' n' g => hx cls od xd F' H' n' (g1.trans g))⟩
  | _ => exact ht1.elim
theorem DE.not {a : Expr} {t : TD D} {pos} (h : DE X W a t) : DE X W (.UnaryOp .Not a pos) (fun ρ => do match ← t ρ with | .bl b => pure (.bl (!b)) | _ => Wm.fail) := by
  obtain ⟨te, p1, r1⟩ := h
  refine ⟨_, fun i => pe_not (p1 i), fun F H n σ ρ K Kx Q hs ht hq hx => ?_⟩
  refine r1 F H n σ ρ _ Kx _ hs ht (fun v d F1 H1 n1 g1 hv ht1 => ?_) hx
  cases hv with
  | bl b => exact ⟨b, rfl, hq _ _ F1 H1 n1 g1 (.bl _) ht1⟩
  | _ => exact ht1.elim
theorem DE.cmp {a b : Expr} {op : CmpOp} {pos} {r : R2} {φ : D → D → Wm D} {t u : TD D} (ho : ∀ i, OpR (X i) (compareOp op) r) (hr : Sem2 r φ) (h1 : DE X W a t) (h2 : DE X W b u) (hm : behindInMarks op b = false := by first | exact nomark _ | rfl) :
    DE X W (.Compare a [op] [b] pos) (fun ρ => do let x ← t ρ; let y ← u ρ; calm (φ x y)) := .op2 (fun i _ _ pa pb => pe_cmpR (ho i) pa pb hm) hr h1 h2
theorem DE.ifExp {c a b : Expr} {tc : TD Bool} {t u : TD D} {pos} (hc : DT X W c tc) (h1 : DE X W a t) (h2 : DE X W b u) : DE X W (.IfExp c a b pos) (fun ρ => do if ← tc ρ then t ρ else u ρ) := by
  obtain ⟨tt, p0, r0⟩ := hc
  obtain ⟨te, p1, r1⟩ := h1
  obtain ⟨tu, p2, r2⟩ := h2
  refine ⟨_, fun i => pe_ifExp (p0 i) (p1 i) (p2 i), fun F H n σ ρ K Kx Q hs ht hq hx => ?_⟩
  refine r0 F H n σ ρ _ Kx _ hs ht (fun b F1 H1 n1 g1 ht1 => ?_) hx
  cases b with
  | true => exact iteT (r1 F1 H1 n1 σ ρ K Kx Q (hs.mono g1) ht1 (fun v d F2 H2 n2 g2 => hq v d F2 H2 n2 (g1.trans g2)) fun cls od xd F' H' n' g => hx cls od xd F' H' n' (g1.trans g))
  | false => exact iteF (r2 F1 H1 n1 σ ρ K Kx Q (hs.mono g1) ht1 (fun v d F2 H2 n2 g2 => hq v d F2 H2 n2 (g1.trans g2)) fun cls od xd F' H' n' g => hx cls od xd F' H' n' (g1.trans g))

/-! ### calls of one's own defs -/
/-- the promise of a def that takes m values to what w tells of their data -/
def spD (m : Nat) (w : List D → Wm D) : Sp := fun vs H Q E => vs.length = m ∧ ∃ F n ds K X, PenB F H n ∧ HasL F H vs ds ∧ w ds K X n ∧
  (∀ v d F' H' n', Grow F H n F' H' n' → Has F' H' v d → K d n' → Q v H') ∧ (∀ cls od xd F' H' n', Grow F H n F' H' n' → HasX F' H' cls od xd → X xd n' → E cls od H')
theorem DE.call {x : Str} {p pos : Pos} {e : Expr} {es : List Expr} {t : TD (List D)} {k f fd} {ps : List Str} {w : List D → Wm D} {m : Nat} (F : ∀ i, FnG (X i).prog (X i).w (X i).K (X i).mg (X i).base k f fd ps (spD m w)) (hgd : ∀ i, (X i).A.guards = some []) (hr : ∀ i, Room k (X i).A)
    (tk : ∀ i, Takes (X i) W) (hg : ∀ i, Gl (X i) x) (hm : ∀ i, (X i).mg x = some (.ref f)) (hk : ∀ i, PySem.W.keepIn (X i).K (.ref f) = true) (hb : ∀ i, Binds (X i).K fd ps []) (h : DA X W (e :: es) t) (hdb : (x == ("__debug__" : Str)) = false := by decide)
    (he : plainE e = true := by rfl) (hpl : ∀ i, (backTo pos (starEach es (X i).env)).any (·.1) = false := by intro _; rfl) :
    DE X W (.Call (.Name x p) (e :: es) [] pos) (fun ρ => do let ds ← t ρ; Wm.need (ds.length = m); w ds) := by
  obtain ⟨ta, p1, r1⟩ := h
  refine ⟨_, fun i => pe_callG (F i) (hgd i) (hr i) (tk i) (hg i) (hm i) (hk i) (hb i) (p1 i) hdb (star_plain he) (hpl i), fun F H n σ ρ K Kx Q hs ht hq hx => ?_⟩
  refine r1 F H n σ ρ _ Kx _ hs ht (fun vs ds F1 H1 n1 g1 hv ht1 => ?_) hx
  exact ⟨by rw [hv.len]; exact ht1.1, F1, n1, ds, K, Kx, g1.pb, hv, ht1.2, fun v d F2 H2 n2 g2 => hq v d F2 H2 n2 (g1.trans g2), fun cls od xd F' H' n' g => hx cls od xd F' H' n' (g1.trans g)⟩
theorem DE.call0 {x : Str} {p pos : Pos} {k f fd} {ps : List Str} {w : List D → Wm D} (F : ∀ i, FnG (X i).prog (X i).w (X i).K (X i).mg (X i).base k f fd ps (spD 0 w)) (hgd : ∀ i, (X i).A.guards = some []) (hr : ∀ i, Room k (X i).A)
    (tk : ∀ i, Takes (X i) W) (hg : ∀ i, Gl (X i) x) (hm : ∀ i, (X i).mg x = some (.ref f)) (hk : ∀ i, PySem.W.keepIn (X i).K (.ref f) = true) (hb : ∀ i, Binds (X i).K fd ps []) (hdb : (x == ("__debug__" : Str)) = false := by decide) :
    DE X W (.Call (.Name x p) [] [] pos) (fun _ => w []) := by
  refine ⟨_, fun i => pe_callG0 (F i) (hgd i) (hr i) (tk i) (hg i) (hm i) (hk i) (hb i) hdb, fun F H n σ ρ K Kx Q hs ht hq hx => ?_⟩
  exact ⟨rfl, F, n, [], K, Kx, hs.pb, .nil, ht, hq, hx⟩
end
end DL


set_option maxRecDepth 100000
set_option maxHeartbeats 2000000
/-! DL2: statements, loops, functions by data. Own work. -/
namespace DL
open PySem PySem.Spec PyProof.Rows L2

/-- the entry -/
structure Base where
  F : Addr → Prop
  H : Hp
  n : Nat
structure Stt (B : Base) (F : Addr → Prop) (H : Hp) (n : Nat) (σ : L2.St) (ρ : Env') : Prop where
  grow : Grow B.F B.H B.n F H n
  hs : HasS F H n σ ρ
  own : ∀ (i : Nat) (ds : Own) (a : Addr), ρ[i]? = some (some (.m ds)) → σ[i]? = some (some (.ref a)) → B.H a = none
  sep : ∀ (i j : Nat) (ds es : Own) (a : Addr), i ≠ j → ρ[i]? = some (some (.m ds)) → ρ[j]? = some (some (.m es)) → σ[i]? = some (some (.ref a)) → σ[j]? = some (some (.ref a)) → False
theorem Stt.mono {B : Base} {F F' : Addr → Prop} {H H' : Hp} {n n' : Nat} {σ : L2.St} {ρ : Env'} (s : Stt B F H n σ ρ) (g : Grow F H n F' H' n') : Stt B F' H' n' σ ρ :=
  ⟨s.grow.trans g, s.hs.mono g, s.own, s.sep⟩

structure DEnds where
  nx : Env' → Nat → Prop
  rt : D → Nat → Prop
  bk : Env' → Nat → Prop := fun _ _ => False
  ct : Env' → Nat → Prop := fun _ _ => False
  ex : XD → Env' → Nat → Prop := fun _ _ _ => False
  /-- nothing that is asked for later leans on what is not in the slots; no list stood at the start -/
  nl : Prop := False
abbrev TDS := DEnds → Env' → Nat → Prop
structure EndsOk (W : WX) (B : Base) (F₁ : Addr → Prop) (H₁ : Hp) (n₁ : Nat) (E : DEnds) (D : Ends) : Prop where
  nx' : ∀ σ ρ F H n, Stt B F H n σ ρ → (E.nl ∨ Later F₁ H₁ n₁ F H n) → E.nx ρ n → D.nx σ H
  bk' : ∀ σ ρ F H n, Stt B F H n σ ρ → (E.nl ∨ Later F₁ H₁ n₁ F H n) → E.bk ρ n → D.bk σ H
  ct' : ∀ σ ρ F H n, Stt B F H n σ ρ → (E.nl ∨ Later F₁ H₁ n₁ F H n) → E.ct ρ n → D.ct σ H
  rt : ∀ v d F H n, Grow B.F B.H B.n F H n → Has F H v d → E.rt d n → D.rt v H
  ex' : ∀ cls od xd σ ρ F H n, Stt B F H n σ ρ → (E.nl ∨ Later F₁ H₁ n₁ F H n) → HasX F H cls od xd → E.ex xd ρ n → W cls od σ H
  nl : E.nl → (∀ a vs, B.H a ≠ some (.lst vs)) ∧ ∀ a, B.F a → ∃ o, B.H a = some o
section
variable {W : WX} {B : Base} {F₁ F₂ : Addr → Prop} {H₁ H₂ : Hp} {n₁ n₂ : Nat} {E : DEnds} {D : Ends} (e : EndsOk W B F₁ H₁ n₁ E D)
include e
theorem EndsOk.nx : ∀ σ ρ F H n, Stt B F H n σ ρ → Later F₁ H₁ n₁ F H n → E.nx ρ n → D.nx σ H := fun σ ρ F H n s l => e.nx' σ ρ F H n s (.inr l)
theorem EndsOk.bk : ∀ σ ρ F H n, Stt B F H n σ ρ → Later F₁ H₁ n₁ F H n → E.bk ρ n → D.bk σ H := fun σ ρ F H n s l => e.bk' σ ρ F H n s (.inr l)
theorem EndsOk.ct : ∀ σ ρ F H n, Stt B F H n σ ρ → Later F₁ H₁ n₁ F H n → E.ct ρ n → D.ct σ H := fun σ ρ F H n s l => e.ct' σ ρ F H n s (.inr l)
theorem EndsOk.ex : ∀ cls od xd σ ρ F H n, Stt B F H n σ ρ → Later F₁ H₁ n₁ F H n → HasX F H cls od xd → E.ex xd ρ n → W cls od σ H := fun c o x σ ρ F H n s l => e.ex' c o x σ ρ F H n s (.inr l)
theorem EndsOk.later' (l : E.nl ∨ Later F₁ H₁ n₁ F₂ H₂ n₂) : EndsOk W B F₂ H₂ n₂ E D := by
  have k : ∀ {F H n}, (E.nl ∨ Later F₂ H₂ n₂ F H n) → (E.nl ∨ Later F₁ H₁ n₁ F H n) := fun z => l.elim .inl fun l => z.imp id fun z => l.trans z
  exact ⟨fun σ ρ F H n s l2 => e.nx' σ ρ F H n s (k l2), fun σ ρ F H n s l2 => e.bk' σ ρ F H n s (k l2), fun σ ρ F H n s l2 => e.ct' σ ρ F H n s (k l2), e.rt, fun c o x σ ρ F H n s l2 => e.ex' c o x σ ρ F H n s (k l2), e.nl⟩
theorem EndsOk.later (l : Later F₁ H₁ n₁ F₂ H₂ n₂) : EndsOk W B F₂ H₂ n₂ E D := e.later' (.inr l)
end
def RunS (W : WX) (ts : TS) (t : TDS) : Prop := ∀ (B : Base) (F : Addr → Prop) (H : Hp) (n : Nat) (σ : L2.St) (ρ : Env') (E : DEnds) (D : Ends), Stt B F H n σ ρ → t E ρ n → EndsOk W B F H n E D → ts D σ H
structure DS {ι : Type} (X : ι → Cx) (W : WX) (st : Stmt) (t : TDS) : Prop where
  ex : ∃ ts, (∀ i, PS (X i) st ts) ∧ RunS W ts t
structure DSs {ι : Type} (X : ι → Cx) (W : WX) (st : List Stmt) (t : TDS) : Prop where
  ex : ∃ ts, (∀ i, PSs (X i) st ts) ∧ RunS W ts t
/-- an expression within a statement -/
def onE (m : TD D) (k : D → Env' → Nat → Prop) : TDS := fun E ρ n => m ρ (fun d n' => k d ρ n') (fun x n' => E.ex x ρ n') n
def onT (m : TD Bool) (k : Bool → Env' → Nat → Prop) : TDS := fun E ρ n => m ρ (fun d n' => k d ρ n') (fun x n' => E.ex x ρ n') n
theorem RunE.on {W : WX} {te : TE} {t : TD D} (r : RunE W te t) {B : Base} {F : Addr → Prop} {H : Hp} {n : Nat} {σ : L2.St} {ρ : Env'} {k : D → Env' → Nat → Prop} {E : DEnds} {Z : Ends} {Q : VK} (s : Stt B F H n σ ρ) (h : onE t k E ρ n) (eo : EndsOk W B F H n E Z)
    (hq : ∀ v d F' H' n', Stt B F' H' n' σ ρ → Grow F H n F' H' n' → Has F' H' v d → k d ρ n' → EndsOk W B F' H' n' E Z → Q v H') : te σ H Q :=
  r F H n σ ρ _ _ Q s.hs h (fun v d F' H' n' g hv hk => hq v d F' H' n' (s.mono g) g hv hk (eo.later g.later)) fun cls od xd F' H' n' g hx he => eo.ex cls od xd σ ρ F' H' n' (s.mono g) g.later hx he
theorem RunT.on {W : WX} {te : TT} {t : TD Bool} (r : RunT W te t) {B : Base} {F : Addr → Prop} {H : Hp} {n : Nat} {σ : L2.St} {ρ : Env'} {E : DEnds} {D : Ends} {k : Bool → Env' → Nat → Prop} {Q : Bool → Hp → Prop} (s : Stt B F H n σ ρ) (h : onT t k E ρ n) (eo : EndsOk W B F H n E D)
    (hq : ∀ b F' H' n', Stt B F' H' n' σ ρ → Grow F H n F' H' n' → k b ρ n' → EndsOk W B F' H' n' E D → Q b H') : te σ H Q :=
  r F H n σ ρ _ _ Q s.hs h (fun b F' H' n' g hk => hq b F' H' n' (s.mono g) g hk (eo.later g.later)) fun cls od xd F' H' n' g hx he => eo.ex cls od xd σ ρ F' H' n' (s.mono g) g.later hx he

section
variable {ι : Type} {X : ι → Cx} {W : WX}
/-! ### blocks -/
def dNext : TDS := fun E ρ n => E.nx ρ n
def dSeq (t u : TDS) : TDS := fun E ρ n => t { E with nx := fun ρ' n' => u E ρ' n' } ρ n
theorem DSs.nil : DSs X W [] dNext := ⟨_, fun _ => pss_nil, fun B F H n σ ρ E D s h eo => eo.nx σ ρ F H n s .refl h⟩
theorem DSs.cons {st : Stmt} {rest : List Stmt} {t u : TDS} (h1 : DS X W st t) (h2 : DSs X W rest u) : DSs X W (st :: rest) (dSeq t u) := by
  obtain ⟨ts, p1, r1⟩ := h1
  obtain ⟨us, p2, r2⟩ := h2
  refine ⟨_, fun i => pss_cons (p1 i) (p2 i), fun B F H n σ ρ E D s h eo => ?_⟩
  refine r1 B F H n σ ρ _ _ s h ⟨fun σ' ρ' F' H' n' s' l hn => ?_, eo.bk', eo.ct', eo.rt, eo.ex', eo.nl⟩
  exact r2 B F' H' n' σ' ρ' E D s' hn (eo.later' l)
theorem DSs.one {st : Stmt} {t : TDS} (h1 : DS X W st t) : DSs X W [st] t := by
  obtain ⟨ts, p1, r1⟩ := h1
  exact ⟨_, fun i => pss_one (p1 i), r1⟩
theorem DS.pass {pos} : DS X W (.Pass pos) dNext := ⟨_, fun _ => ps_pass, fun B F H n σ ρ E D s h eo => eo.nx σ ρ F H n s .refl h⟩
theorem DS.brk {pos} : DS X W (.Break pos) (fun E ρ n => E.bk ρ n) := ⟨_, fun _ => ps_break, fun B F H n σ ρ E D s h eo => eo.bk σ ρ F H n s .refl h⟩
theorem DS.cont {pos} : DS X W (.Continue pos) (fun E ρ n => E.ct ρ n) := ⟨_, fun _ => ps_continue, fun B F H n σ ρ E D s h eo => eo.ct σ ρ F H n s .refl h⟩
theorem DS.doc {x j pos pos'} : DS X W (.Expr (.Constant (.str x) j pos) pos') dNext := ⟨_, fun _ => ps_doc, fun B F H n σ ρ E D s h eo => eo.nx σ ρ F H n s .refl h⟩
theorem DS.expr {e : Expr} {t : TD D} {pos : Pos} (h : DE X W e t) (hs : ∀ i, swapsWith e none pos.line (X i).env = pure false := by intro _; rfl) : DS X W (.Expr e pos) (fun E => onE t (fun _ ρ n => E.nx ρ n) E) := by
  obtain ⟨te, p, r⟩ := h
  refine ⟨_, fun i => ps_expr (p i) (hs i), fun B F H n σ ρ E D s h eo => ?_⟩
  exact r.on s h eo fun v d F' H' n' s' g hv hk eo' => eo'.nx σ ρ F' H' n' s' .refl hk
theorem DS.ret {e : Expr} {t : TD D} {pos : Pos} (h : DE X W e t) : DS X W (.Return (some e) pos) (fun E => onE t (fun d _ n => E.rt d n) E) := by
  obtain ⟨te, p, r⟩ := h
  refine ⟨_, fun i => ps_ret (p i), fun B F H n σ ρ E D s h eo => ?_⟩
  exact r.on s h eo fun v d F' H' n' s' g hv hk eo' => eo'.rt v d F' H' n' s'.grow hv hk
theorem DS.retN {pos : Pos} : DS X W (.Return none pos) (fun E _ n => E.rt .non n) := ⟨_, fun _ => ps_retN, fun B F H n σ ρ E D s h eo => eo.rt .non .non F H n s.grow .non h⟩
theorem DS.ifS {c : Expr} {a b : List Stmt} {tc : TD Bool} {t u : TDS} {pos : Pos} (hc : DT X W c tc) (ha : DSs X W a t) (hb : DSs X W b u) : DS X W (.If c a b pos) (fun E => onT tc (fun k ρ n => if k = true then t E ρ n else u E ρ n) E) := by
  obtain ⟨te, p, r⟩ := hc
  obtain ⟨ts, p1, r1⟩ := ha
  obtain ⟨us, p2, r2⟩ := hb
  refine ⟨_, fun i => ps_if (p i) (p1 i) (p2 i), fun B F H n σ ρ E D s h eo => ?_⟩
  refine r.on s h eo fun b F' H' n' s' g hk eo' => ?_
  cases b with
  | true => exact iteT (r1 B F' H' n' σ ρ E D s' (by simpa using hk) eo')
  | false => exact iteF (r2 B F' H' n' σ ρ E D s' (by simpa using hk) eo')
end

/-! ### slots -/
theorem HasS.set {F : Addr → Prop} {H : Hp} {n : Nat} {σ : L2.St} {ρ : Env'} {i : Nat} {v : V} {x : SV} (h : HasS F H n σ ρ) (hv : HasV F H v x) : HasS F H n (σ.set i (some v)) (ρ.set i (some x)) := by
  refine ⟨h.pb, by simp [h.len], fun j y e => ?_⟩
  by_cases hj : i = j
  · subst hj
    by_cases hl : i < ρ.length
    · rw [List.getElem?_set_self hl] at e
      have e := Option.some.inj (Option.some.inj e)
      subst e
      exact ⟨v, List.getElem?_set_self (by rw [h.len]; exact hl), hv⟩
    · rw [List.getElem?_eq_none (by simp; omega)] at e
      cases e
  · rw [List.getElem?_set_ne hj] at e ⊢
    exact h.at_ j y e
theorem ml_set {ρ : Env'} {i j : Nat} {x : D} {ds : Own} (e : (ρ.set i (some (.d x)))[j]? = some (some (.m ds))) : i ≠ j ∧ ρ[j]? = some (some (.m ds)) := by
  by_cases hj : i = j
  · subst hj
    by_cases hl : i < ρ.length
    · rw [List.getElem?_set_self hl] at e
      cases e
    · rw [List.getElem?_eq_none (by simp; omega)] at e
      cases e
  · rw [List.getElem?_set_ne hj] at e
    exact ⟨hj, e⟩
theorem Stt.set {B : Base} {F : Addr → Prop} {H : Hp} {n : Nat} {σ : L2.St} {ρ : Env'} {i : Nat} {v : V} {d : D} (s : Stt B F H n σ ρ) (hv : Has F H v d) : Stt B F H n (σ.set i (some v)) (ρ.set i (some (.d d))) := by
  refine ⟨s.grow, s.hs.set hv, fun j ds a e1 e2 => ?_, fun j k ds es a hne e1 e2 e3 e4 => ?_⟩
  · obtain ⟨hj, e⟩ := ml_set e1
    rw [List.getElem?_set_ne hj] at e2
    exact s.own j ds a e e2
  · obtain ⟨hj, f1⟩ := ml_set e1
    obtain ⟨hk, f2⟩ := ml_set e2
    rw [List.getElem?_set_ne hj] at e3
    rw [List.getElem?_set_ne hk] at e4
    exact s.sep j k ds es a hne f1 f2 e3 e4

/-! ### targets -/
/-- only the slots ts are others, and they are no lists of one's own -/
structure Only (ts : List Nat) (σ σ' : L2.St) (ρ ρ' : Env') : Prop where
  ls : σ'.length = σ.length
  lr : ρ'.length = ρ.length
  out : ∀ i, i ∉ ts → σ'[i]? = σ[i]? ∧ ρ'[i]? = ρ[i]?
  no : ∀ i ds, i ∈ ts → ρ'[i]? ≠ some (some (.m ds))
theorem Only.refl {σ : L2.St} {ρ : Env'} : Only [] σ σ ρ ρ := ⟨rfl, rfl, fun _ _ => ⟨rfl, rfl⟩, fun _ _ h => by simp at h⟩
theorem Only.trans {ts us : List Nat} {σ σ1 σ2 : L2.St} {ρ ρ1 ρ2 : Env'} (a : Only ts σ σ1 ρ ρ1) (b : Only us σ1 σ2 ρ1 ρ2) : Only (ts ++ us) σ σ2 ρ ρ2 where
  ls := b.ls.trans a.ls
  lr := b.lr.trans a.lr
  out := fun i h => by
    have h1 : i ∉ ts := fun z => h (List.mem_append_left _ z)
    have h2 : i ∉ us := fun z => h (List.mem_append_right _ z)
    exact ⟨(b.out i h2).1.trans (a.out i h1).1, (b.out i h2).2.trans (a.out i h1).2⟩
  no := fun i ds h => by
    by_cases h2 : i ∈ us
    · exact b.no i ds h2
    · rw [(b.out i h2).2]
      exact a.no i ds ((List.mem_append.mp h).resolve_right h2)
theorem Only.set {σ : L2.St} {ρ : Env'} {k : Nat} {v : V} {d : D} : Only [k] σ (σ.set k (some v)) ρ (ρ.set k (some (.d d))) where
  ls := by simp
  lr := by simp
  out := fun i h => by
    have hk : k ≠ i := fun e => h (by simp [e])
    exact ⟨List.getElem?_set_ne hk, List.getElem?_set_ne hk⟩
  no := fun i ds h e => by
    have hi : i = k := by simpa using h
    exact (ml_set e).1 hi.symm
theorem Stt.only {B : Base} {F : Addr → Prop} {H : Hp} {n : Nat} {σ σ' : L2.St} {ρ ρ' : Env'} {ts : List Nat} (s : Stt B F H n σ ρ) (hs : HasS F H n σ' ρ') (o : Only ts σ σ' ρ ρ') : Stt B F H n σ' ρ' := by
  have key : ∀ (i : Nat) (ds : Own), ρ'[i]? = some (some (.m ds)) → ρ[i]? = some (some (.m ds)) ∧ σ'[i]? = σ[i]? := fun i ds e => by
    by_cases h : i ∈ ts
    · exact absurd e (o.no i ds h)
    · exact ⟨by rw [← (o.out i h).2]; exact e, (o.out i h).1⟩
  refine ⟨s.grow, hs, fun i ds a e1 e2 => ?_, fun i j ds es a hne e1 e2 e3 e4 => ?_⟩
  · obtain ⟨h1, h2⟩ := key i ds e1
    exact s.own i ds a h1 (by rw [← h2]; exact e2)
  · obtain ⟨h1, h2⟩ := key i ds e1
    obtain ⟨h3, h4⟩ := key j es e2
    exact s.sep i j ds es a hne h1 h3 (by rw [← h2]; exact e3) (by rw [← h4]; exact e4)
abbrev TDG := D → Env' → Option Env'
def RunG (tg : TG) (g : TDG) (ts : List Nat) : Prop := ∀ (F : Addr → Prop) (H : Hp) (n : Nat) (σ : L2.St) (ρ ρ' : Env') (v : V) (d : D) (Q : L2.St → Hp → Prop), HasS F H n σ ρ → Has F H v d → g d ρ = some ρ' → (∀ σ', HasS F H n σ' ρ' → Only ts σ σ' ρ ρ' → Q σ' H) → tg v σ H Q
structure DG {ι : Type} (X : ι → Cx) (e : Expr) (g : TDG) (ts : List Nat) : Prop where
  ex : ∃ tg, (∀ i, PG (X i) e tg) ∧ RunG tg g ts
abbrev TDGs := List D → Env' → Option Env'
def RunGs (tg : TGs) (g : TDGs) (ts : List Nat) : Prop := ∀ (F : Addr → Prop) (H : Hp) (n : Nat) (σ : L2.St) (ρ ρ' : Env') (vs : List V) (ds : List D) (Q : L2.St → Hp → Prop), HasS F H n σ ρ → HasL F H vs ds → g ds ρ = some ρ' → (∀ σ', HasS F H n σ' ρ' → Only ts σ σ' ρ ρ' → Q σ' H) → tg vs σ H Q
structure DGs {ι : Type} (X : ι → Cx) (es : List Expr) (g : TDGs) (ts : List Nat) : Prop where
  ex : ∃ tg, (∀ i, PGs (X i) es tg) ∧ RunGs tg g ts
section
variable {ι : Type} {X : ι → Cx} {W : WX}
def dName (k : Nat) : TDG := fun d ρ => some (ρ.set k (some (.d d)))
theorem DG.name {k : Nat} {e : Expr} (h : ∀ i, PG (X i) e (gName k)) : DG X e (dName k) [k] := ⟨_, h, fun F H n σ ρ ρ' v d Q s hv e hq => by
  cases e
  exact hq _ (s.set hv) .set⟩
def dgNil : TDGs := fun ds ρ => match ds with | [] => some ρ | _ => none
def dgCons (g : TDG) (gs : TDGs) : TDGs := fun ds ρ => match ds with | d :: r => (g d ρ).bind (gs r) | [] => none
def dgTup (m : Nat) (gs : TDGs) : TDG := fun d ρ => match d with | .tup ds => if ds.length = m then gs ds ρ else none | _ => none
theorem DGs.nil : DGs X [] dgNil [] := ⟨_, fun _ => pgs_nil, fun F H n σ ρ ρ' vs ds Q s hv e hq => by
  cases hv with
  | nil => cases e; exact ⟨rfl, hq σ s .refl⟩
  | cons _ _ => cases e⟩
theorem DGs.cons {e : Expr} {es : List Expr} {g : TDG} {gs : TDGs} {ts us : List Nat} (h1 : DG X e g ts) (h2 : DGs X es gs us) (hs : ∀ i, (assignEach (e :: es) (X i).env).map (·.2) = assign e (X i).env :: (assignEach es (X i).env).map (·.2) := by intro _; rfl) :
    DGs X (e :: es) (dgCons g gs) (ts ++ us) := by
  obtain ⟨t1, p1, r1⟩ := h1
  obtain ⟨t2, p2, r2⟩ := h2
  refine ⟨_, fun i => pgs_cons (p1 i) (p2 i) (hs i), fun F H n σ ρ ρ' vs ds Q s hv e hq => ?_⟩
  cases hv with
  | nil => cases e
  | @cons v d vs ds hv hr =>
    obtain ⟨ρ1, e1, e2⟩ := Option.bind_eq_some_iff.mp e
    exact ⟨v, vs, rfl, r1 F H n σ ρ ρ1 v d _ s hv e1 fun σ1 s1 o1 => r2 F H n σ1 ρ1 ρ' vs ds Q s1 hr e2 fun σ2 s2 o2 => hq σ2 s2 (o1.trans o2)⟩
theorem DG.tup {es : List Expr} {k m : Nat} {pos : Pos} {gs : TDGs} {ts : List Nat} {K : PySem.W.Frag} (hK : ∀ i, (X i).K = K) (hc : ∀ i, (X i).calm = true) (h : DGs X es gs ts)
    (hn : ∀ i, (assignEach es (X i).env).length = m := by intro _; rfl) (hst : ∀ i, (assignEach es (X i).env).findIdx? (·.1) = none := by intro _; rfl) :
    DG X (.Tuple es k pos) (dgTup m gs) ts := by
  obtain ⟨tg, p, r⟩ := h
  refine ⟨gTup K m tg, fun i => by rw [← hK i]; exact pg_tup (hc i) (p i) (hn i) (hst i), fun F H n σ ρ ρ' v d Q s hv e hq => ?_⟩
  cases hv with
  | @tup a vs ds f ha hl =>
    have e : (if ds.length = m then gs ds ρ else none) = some ρ' := e
    by_cases hm : ds.length = m
    · rw [if_pos hm] at e
      exact ⟨a, vs, rfl, .of ha, by rw [hl.len]; exact hm, r F H n σ ρ ρ' vs ds Q s hl e hq⟩
    · rw [if_neg hm] at e
      cases e
  | _ => cases e
/-- target = value -/
def dAsg (t : TD D) (g : TDG) : TDS := fun E => onE t (fun d ρ n => match g d ρ with | some ρ' => E.nx ρ' n | none => False) E
theorem DS.asg {tg e : Expr} {t : TD D} {g : TDG} {us : List Nat} {pos : Pos} (h : DE X W e t) (hg : DG X tg g us) (hs : ∀ i, swapsWithSole [tg] e pos.line (X i).env = pure false := by intro _; rfl) (hw : ∀ i, swappedStores [tg] e (X i).env = pure none := by intro _; rfl)
    (h1 : ∀ i, (assignEach [tg] (X i).env).map (·.2) = [assign tg (X i).env] := by intro _; rfl) : DS X W (.Assign [tg] e pos) (dAsg t g) := by
  obtain ⟨te, p, r⟩ := h
  obtain ⟨tg, pg, rg⟩ := hg
  refine ⟨_, fun i => ps_asg (p i) (pg i) (hs i) (hw i) (h1 i), fun B F H n σ ρ E D s h eo => ?_⟩
  refine r.on s h eo fun v d F' H' n' s' g' hv hk eo' => ?_
  cases q : g d ρ with
  | none => rw [q] at hk; exact hk.elim
  | some ρ' =>
    rw [q] at hk
    exact rg F' H' n' σ ρ ρ' v d _ s'.hs hv q fun σ' s2 o => eo'.nx σ' ρ' F' H' n' (s'.only s2 o) .refl hk
theorem DS.set {k : Nat} {x : Str} {e : Expr} {t : TD D} {pos pos' : Pos} (hN : ∀ i, (X i).N.Nodup) (hi : ∀ i, (X i).N[k]? = some x) (hx : ∀ i, Loc (X i).env.scope x) (h : DE X W e t) (hs : ∀ i, swapsWith e (some (.Name x pos')) pos.line (X i).env = pure false := by intro _; rfl)
    (hf : ∀ i, (X i).fn x = true ∨ (X i).env.scope.names.lookup x = some .local := by first | exact fun _ => .inl rfl | exact fun _ => .inr rfl) : DS X W (.Assign [.Name x pos'] e pos) (dAsg t (dName k)) := by
  obtain ⟨te, p, r⟩ := h
  refine ⟨_, fun i => ps_set (i := k) (hN i) (hi i) (hx i) (p i) (hs i) (hf i), fun B F H n σ ρ E D s h eo => ?_⟩
  exact r.on s h eo fun v d F' H' n' s' g' hv hk eo' => eo'.nx _ _ F' H' n' (s'.set hv) .refl hk

/-! ### lists of one's own -/
/-- from here on it is not changed any more -/
def dFreeze (k : Nat) (t : TDS) : TDS := fun E ρ n => match ρ[k]? with
  | some (some (.m x)) => t E (ρ.set k (some (.d x.d))) n
  | _ => False
theorem set_id {α : Type} {l : List α} {i : Nat} {x : α} (h : l[i]? = some x) : l.set i x = l := by
  obtain ⟨hl, e⟩ := List.getElem?_eq_some_iff.mp h
  rw [← e]
  exact List.set_getElem_self hl
theorem Stt.freeze {B : Base} {F : Addr → Prop} {H : Hp} {n : Nat} {σ : L2.St} {ρ : Env'} {k : Nat} {ds : Own} (s : Stt B F H n σ ρ) (e : ρ[k]? = some (some (.m ds))) : ∃ F', Stt B F' H n σ (ρ.set k (some (.d ds.d))) ∧ Later F H n F' H n := by
  obtain ⟨v, e1, a, vs, rfl, ha, hl, nf, _⟩ := s.hs.at_ k _ e
  have hB : B.H a = none := s.own k ds a e e1
  have l : Later F H n (plusF F a) H n := ⟨fun b o f h => .inl h, fun b f => .inl f, Nat.le_refl _⟩
  refine ⟨plusF F a, ⟨⟨s.grow.keep, fun b f => .inl (s.grow.sub b f), fun b f => f.elim (s.grow.new b) fun q => .inr (by rw [q]; exact hB), s.hs.pb.sup (fun _ => .inl) (fun b f => f.elim (s.hs.pb.dom b) fun q => ⟨_, q ▸ ha⟩), s.grow.le⟩, ⟨s.hs.pb.sup (fun _ => .inl) (fun b f => f.elim (s.hs.pb.dom b) fun q => ⟨_, q ▸ ha⟩), by simp [s.hs.len], fun j y ej => ?_⟩, fun j es b f1 f2 => ?_, fun j j2 es fs b hne f1 f2 f3 f4 => ?_⟩, l⟩
  · by_cases hj : k = j
    · subst hj
      rw [List.getElem?_set_self (List.getElem?_eq_some_iff.mp e).1] at ej
      have ej := Option.some.inj (Option.some.inj ej)
      subst ej
      exact ⟨_, e1, (hl.later l).has plusF_same ha⟩
    · rw [List.getElem?_set_ne hj] at ej
      obtain ⟨w, w1, w2⟩ := s.hs.at_ j y ej
      refine ⟨w, w1, ?_⟩
      cases y with
      | d x => exact Has.later l w2
      | m es =>
        obtain ⟨b, ws, rfl, hb, hl2, nf2, hat⟩ := w2
        refine ⟨b, ws, rfl, hb, hl2.later l, fun f => f.elim nf2 fun q => ?_, hat⟩
        subst q
        exact s.sep k j ds es b hj e ej e1 w1
  · obtain ⟨hj, f⟩ := ml_set f1
    exact s.own j es b f f2
  · obtain ⟨hj, g1⟩ := ml_set f1
    obtain ⟨hk, g2⟩ := ml_set f2
    exact s.sep j j2 es fs b hne g1 g2 f3 f4
theorem RunS.freeze {W : WX} {ts : TS} {t : TDS} (k : Nat) (r : RunS W ts t) : RunS W ts (dFreeze k t) := fun B F H n σ ρ E D s h eo => by
  have h : (match ρ[k]? with
    | some (some (.m ds)) => t E (ρ.set k (some (.d ds.d))) n
    | _ => False) := h
  match e : ρ[k]? with
  | some (some (.m ds)) =>
    rw [e] at h
    obtain ⟨F', s', l⟩ := s.freeze e
    exact r B F' H n σ _ E D s' h (eo.later l)
  | some (some (.d _)) => rw [e] at h; exact h.elim
  | some none => rw [e] at h; exact h.elim
  | none => rw [e] at h; exact h.elim
theorem DS.freeze {st : Stmt} {t : TDS} (k : Nat) (h : DS X W st t) : DS X W st (dFreeze k t) := let ⟨ts, p, r⟩ := h; ⟨ts, p, r.freeze k⟩
theorem DSs.freeze {st : List Stmt} {t : TDS} (k : Nat) (h : DSs X W st t) : DSs X W st (dFreeze k t) := let ⟨ts, p, r⟩ := h; ⟨ts, p, r.freeze k⟩
/-- x = [e, ..], x to be changed -/
def dOwn (k : Nat) (t : TD (List D)) : TDS := fun E ρ n => t ρ (fun ds n' => Fits ds.length ∧ E.nx (ρ.set k (some (.m ⟨none, .lst ds⟩))) n') (fun x n' => E.ex x ρ n') n
theorem Stt.own_newG {B : Base} {F : Addr → Prop} {H : Hp} {n : Nat} {σ : L2.St} {ρ : Env'} {k : Nat} {a : Addr} {o : HO} {ds : Own} (s : Stt B F H n σ ρ) (ha : H a = none) (hl : OwnR F H o ds.d) (hat : ∀ b, ds.at_ = some b → a = b) : Stt B F (upd H a o) n (σ.set k (some (.ref a))) (ρ.set k (some (.m ds))) ∧ Grow F H n F (upd H a o) n := by
  have g0 : Grow F H n (plusF F a) (upd H a o) n := .laid s.hs.pb ha hl.hard
  have g : Grow F H n F (upd H a o) n := ⟨g0.keep, fun _ f => f, fun _ f => .inl f, s.hs.pb.put (s.hs.pb.out ha) hl.hard, Nat.le_refl _⟩
  have hB : ∀ {b : Addr}, H b = none → B.H b = none := fun {b} h => by
    cases q : B.H b with
    | none => rfl
    | some o => exact absurd h (s.grow.keep b o q).some
  have hF : ¬ F a := fun f => by
    obtain ⟨o, e⟩ := s.hs.pb.dom a f
    rw [ha] at e
    cases e
  have s1 := s.mono g
  have nost : ∀ (j : Nat) (es : Own), ρ[j]? = some (some (.m es)) → σ[j]? ≠ some (some (.ref a)) := fun j es f z => by
    obtain ⟨v, e1, b, ws, rfl, hb, _⟩ := s.hs.at_ j _ f
    rw [z] at e1
    cases e1
    rw [ha] at hb
    cases hb
  have key : ∀ (j : Nat) (es : Own) (b : Addr), (ρ.set k (some (.m ds)))[j]? = some (some (.m es)) → (σ.set k (some (V.ref a)))[j]? = some (some (.ref b)) → (k = j ∧ a = b) ∨ (k ≠ j ∧ ρ[j]? = some (some (.m es)) ∧ σ[j]? = some (some (.ref b))) := fun j es b f1 f2 => by
    by_cases hj : k = j
    · subst hj
      by_cases hl : k < σ.length
      · rw [List.getElem?_set_self hl] at f2
        cases f2
        exact .inl ⟨rfl, rfl⟩
      · rw [List.getElem?_eq_none (by simp; omega)] at f2
        cases f2
    · rw [List.getElem?_set_ne hj] at f1 f2
      exact .inr ⟨hj, f1, f2⟩
  refine ⟨⟨s1.grow, s1.hs.set ⟨a, o, rfl, upd_same, hl.later g.later, hF, hat⟩, fun j es b f1 f2 => ?_, fun j j2 es fs b hne f1 f2 f3 f4 => ?_⟩, g⟩
  · rcases key j es b f1 f2 with ⟨_, rfl⟩ | ⟨_, h1, h2⟩
    · exact hB ha
    · exact s.own j es b h1 h2
  · rcases key j es b f1 f3 with ⟨h1, rfl⟩ | ⟨h1, h2, h3⟩
    · rcases key j2 fs a f2 f4 with ⟨g1, _⟩ | ⟨g1, g2, g3⟩
      · exact hne (h1.symm.trans g1)
      · exact nost j2 fs g2 g3
    · rcases key j2 fs b f2 f4 with ⟨g1, rfl⟩ | ⟨g1, g2, g3⟩
      · exact nost j es h2 h3
      · exact s.sep j j2 es fs b hne h2 g2 h3 g3
theorem Stt.own_new {B : Base} {F : Addr → Prop} {H : Hp} {n : Nat} {σ : L2.St} {ρ : Env'} {k : Nat} {a : Addr} {vs : List V} {ds : List D} (s : Stt B F H n σ ρ) (ha : H a = none) (hl : HasL F H vs ds) : Stt B F (upd H a (.lst vs)) n (σ.set k (some (.ref a))) (ρ.set k (some (.m ⟨none, .lst ds⟩))) ∧ Grow F H n F (upd H a (.lst vs)) n :=
  s.own_newG (ds := ⟨none, .lst ds⟩) ha ⟨vs, rfl, hl⟩ (fun b e => by cases e)
theorem DS.own {k : Nat} {x : Str} {es : List Expr} {t : TD (List D)} {p2 pos pos' : Pos} (hN : ∀ i, (X i).N.Nodup) (hi : ∀ i, (X i).N[k]? = some x) (hx : ∀ i, Loc (X i).env.scope x) (h : DA X W es t)
    (hs : ∀ i, swapsWith (.List es p2) (some (.Name x pos')) pos.line (X i).env = pure false := by intro _; rfl)
    (hf : ∀ i, (X i).fn x = true ∨ (X i).env.scope.names.lookup x = some .local := by first | exact fun _ => .inl rfl | exact fun _ => .inr rfl) : DS X W (.Assign [.Name x pos'] (.List es p2) pos) (dOwn k t) := by
  obtain ⟨ta, p, r⟩ := h
  refine ⟨_, fun i => ps_set (i := k) (hN i) (hi i) (hx i) (pe_lst (p i)) (hs i) (hf i), fun B F H n σ ρ E D s h eo => ?_⟩
  refine r F H n σ ρ _ _ _ s.hs h (fun vs ds F' H' n' g hv hk => ⟨by rw [hv.len]; exact hk.1, fun a ha => ?_⟩) fun cls od xd F' H' n' g hx he => eo.ex cls od xd σ ρ F' H' n' (s.mono g) g.later hx he
  obtain ⟨s2, g2⟩ := (s.mono g).own_new (k := k) ha hv
  exact eo.nx _ _ F' _ n' s2 (g.later.trans g2.later) hk.2

/-! ### x.append(e), x a list of one's own -/
theorem ne_F {F : Addr → Prop} {a b : Addr} (nf : ¬ F a) (f : F b) : b ≠ a := fun e => nf (by rw [← e]; exact f)
mutual
theorem Has.out {F : Addr → Prop} {H : Hp} {a : Addr} {o : HO} (nf : ¬ F a) : ∀ {v : V} {d : D}, Has F H v d → Has F (upd H a o) v d
  | _, _, .non => .non
  | _, _, .bl b => .bl b
  | _, _, .int i => .int i
  | _, _, .str x => .str x
  | _, _, .tup f h l => .tup f ((upd_ne (ne_F nf f)).trans h) (HasL.out nf l)
  | _, _, .lst f h l => .lst f ((upd_ne (ne_F nf f)).trans h) (HasL.out nf l)
  | _, _, .dic f h q k l => .dic f ((upd_ne (ne_F nf f)).trans h) q k (HasL.out nf l)
  | _, _, .obj f h k l => .obj f ((upd_ne (ne_F nf f)).trans h) k (HasL.out nf l)
  | _, _, .pen f h ok fc hc hl => .pen f ((upd_ne (ne_F nf f)).trans h) ok fc ((upd_ne (ne_F nf fc)).trans hc) hl
  | _, _, .clo0 f h fc hc => .clo0 f ((upd_ne (ne_F nf f)).trans h) fc ((upd_ne (ne_F nf fc)).trans hc)
  | _, _, .clo1 f h fc hc hl hs l => .clo1 f ((upd_ne (ne_F nf f)).trans h) fc ((upd_ne (ne_F nf fc)).trans hc) hl (fun p hp => let ⟨a, u, o, r, dd, e⟩ := hs p hp; ⟨a, u, o, r, dd, (upd_ne (ne_F nf a)).trans e⟩) (HasL.out nf l)
  | _, _, .fnA a => .fnA a
  | _, _, .exc f h fd hd z l => .exc f ((upd_ne (ne_F nf f)).trans h) fd ((upd_ne (ne_F nf fd)).trans hd) z (HasL.out nf l)
  | _, _, .exc0 f h => .exc0 f ((upd_ne (ne_F nf f)).trans h)
  | _, _, .scr h ht => .scr (h.imp_left fun ⟨o, f, e⟩ => ⟨o, f, (upd_ne (ne_F nf f)).trans e⟩) fun P hP => let ⟨f, ps, e⟩ := ht P hP; ⟨f, ps, (upd_ne (ne_F nf f)).trans e⟩
theorem HasL.out {F : Addr → Prop} {H : Hp} {a : Addr} {o : HO} (nf : ¬ F a) : ∀ {vs : List V} {ds : List D}, HasL F H vs ds → HasL F (upd H a o) vs ds
  | _, _, .nil => .nil
  | _, _, .cons h l => .cons (Has.out nf h) (HasL.out nf l)
end
theorem HasL.snoc {F : Addr → Prop} {H : Hp} : ∀ {vs : List V} {ds : List D} {v : V} {d : D}, HasL F H vs ds → Has F H v d → HasL F H (vs ++ [v]) (ds ++ [d])
  | _, _, _, _, .nil, h => .cons h .nil
  | _, _, _, _, .cons h l, g => .cons h (HasL.snoc l g)
theorem OwnR.out {F : Addr → Prop} {H : Hp} {a : Addr} {p : HO} (nf : ¬ F a) {o : HO} {x : D} (h : OwnR F H o x) : OwnR F (upd H a p) o x := by
  cases x with
  | lst ds => obtain ⟨vs, rfl, l⟩ := h; exact ⟨vs, rfl, l.out nf⟩
  | obj C ns ds => obtain ⟨dx, fs, rfl, z, l⟩ := h; exact ⟨dx, fs, rfl, z, l.out nf⟩
  | _ => exact h.elim
/-- a list of one's own gets other items -/
theorem Stt.own_putG {B : Base} {F : Addr → Prop} {H : Hp} {n : Nat} {σ : L2.St} {ρ : Env'} {k : Nat} {a : Addr} {o o' : HO} {ds ds' : Own} (s : Stt B F H n σ ρ) (e : ρ[k]? = some (some (.m ds))) (e1 : σ[k]? = some (some (.ref a))) (ha : H a = some o) (nf : ¬ F a) (hl : OwnR F H o' ds'.d) (hat : ∀ b, ds'.at_ = some b → a = b) :
    Stt B F (upd H a o') n σ (ρ.set k (some (.m ds'))) ∧ Later F H n F (upd H a o') n := by
  have hB : B.H a = none := s.own k ds a e e1
  have l : Later F H n F (upd H a o') n := ⟨fun b o f h => .inl ((upd_ne (ne_F nf f)).trans h), fun b f => f, Nat.le_refl _⟩
  have pb : PenB F (upd H a o') n := s.hs.pb.put nf hl.hard
  have key : ∀ (j : Nat) (es : Own), (ρ.set k (some (.m ds')))[j]? = some (some (.m es)) → (k = j ∨ (k ≠ j ∧ ρ[j]? = some (some (.m es)))) := fun j es f => by
    by_cases hj : k = j
    · exact .inl hj
    · rw [List.getElem?_set_ne hj] at f
      exact .inr ⟨hj, f⟩
  refine ⟨⟨⟨fun b o h => ?_, s.grow.sub, s.grow.new, pb, s.grow.le⟩, ⟨pb, by simp [s.hs.len], fun j y ej => ?_⟩, fun j es b f1 f2 => ?_, fun j j2 es fs b hne f1 f2 f3 f4 => ?_⟩, l⟩
  · have hb : b ≠ a := fun e => by rw [e, hB] at h; cases h
    rw [upd_ne hb]
    exact s.grow.keep b o h
  · by_cases hj : k = j
    · subst hj
      rw [List.getElem?_set_self (List.getElem?_eq_some_iff.mp e).1] at ej
      have ej := Option.some.inj (Option.some.inj ej)
      subst ej
      exact ⟨_, e1, a, o', rfl, upd_same, hl.out nf, nf, hat⟩
    · rw [List.getElem?_set_ne hj] at ej
      obtain ⟨w, w1, w2⟩ := s.hs.at_ j y ej
      refine ⟨w, w1, ?_⟩
      cases y with
      | d x => exact Has.out nf w2
      | m es =>
        obtain ⟨b, ws, rfl, hb, hl2, nf2, hat2⟩ := w2
        have hba : b ≠ a := fun q => s.sep k j ds es a hj e ej e1 (q ▸ w1)
        exact ⟨b, ws, rfl, (upd_ne hba).trans hb, hl2.out nf, nf2, hat2⟩
  · rcases key j es f1 with rfl | ⟨_, g⟩
    · exact s.own k ds b e f2
    · exact s.own j es b g f2
  · rcases key j es f1 with rfl | ⟨h1, g1⟩
    · rcases key j2 fs f2 with rfl | ⟨h2, g2⟩
      · exact hne rfl
      · exact s.sep k j2 ds fs b hne e g2 f3 f4
    · rcases key j2 fs f2 with rfl | ⟨h2, g2⟩
      · exact s.sep j k es ds b hne g1 e f3 f4
      · exact s.sep j j2 es fs b hne g1 g2 f3 f4
theorem Stt.own_put {B : Base} {F : Addr → Prop} {H : Hp} {n : Nat} {σ : L2.St} {ρ : Env'} {k : Nat} {a : Addr} {vs vs' : List V} {ds ds' : List D} (s : Stt B F H n σ ρ) (e : ρ[k]? = some (some (.m ⟨none, .lst ds⟩))) (e1 : σ[k]? = some (some (.ref a))) (ha : H a = some (.lst vs)) (nf : ¬ F a) (hl : HasL F H vs' ds') :
    Stt B F (upd H a (.lst vs')) n σ (ρ.set k (some (.m ⟨none, .lst ds'⟩))) ∧ Later F H n F (upd H a (.lst vs')) n := s.own_putG (ds' := ⟨none, .lst ds'⟩) e e1 ha nf ⟨vs', rfl, hl⟩ (fun b e => by cases e)
def dAppend (k : Nat) (t : TD D) : TDS := fun E ρ n => match ρ[k]? with
  | some (some (.m ⟨none, .lst ds⟩)) => onE t (fun d ρ n => ds.length < sizeLine ∧ E.nx (ρ.set k (some (.m ⟨none, .lst (ds ++ [d])⟩))) n) E ρ n
  | _ => False
theorem DS.append {k : Nat} {o e : Expr} {t : TD D} {p1 p2 pos : Pos} {K : PySem.W.Frag} (hK : ∀ i, (X i).K = K) (ho : ∀ i, PE (X i) o (tVar k)) (h : DE X W e t)
    (hp : ∀ i ta, PA (X i) [e] ta → PE (X i) (.Call (.Attribute o "append" p1) [e] [] p2) (tBM (X i).K "list" rAppend (tVar k) ta))
    (hst : ∀ i, starEach [e] (X i).env = (false, eval e (X i).env) :: starEach [] (X i).env := by intro _; rfl) (hs : ∀ i, swapsWith (.Call (.Attribute o "append" p1) [e] [] p2) none pos.line (X i).env = pure false := by intro _; rfl) :
    DS X W (.Expr (.Call (.Attribute o "append" p1) [e] [] p2) pos) (dAppend k t) := by
  obtain ⟨te, p, r⟩ := h
  refine ⟨tDrop (tBM K "list" rAppend (tVar k) (tCons te tNil)), fun i => by rw [← hK i]; exact ps_expr (hp i _ (pa_cons (p i) pa_nil (hst i))) (hs i), fun B F H n σ ρ E Z s h eo => ?_⟩
  have h : (match ρ[k]? with
    | some (some (.m ⟨none, .lst ds⟩)) => onE t (fun d ρ n => ds.length < sizeLine ∧ E.nx (ρ.set k (some (.m ⟨none, .lst (ds ++ [d])⟩))) n) E ρ n
    | _ => False) := h
  match e : ρ[k]? with
  | some (some (.d _)) => rw [e] at h; exact h.elim
  | some none => rw [e] at h; exact h.elim
  | none => rw [e] at h; exact h.elim
  | some (some (.m x)) =>
    rw [e] at h
    obtain ⟨at0, x⟩ := x
    cases at0 with
    | some _ => exact h.elim
    | none =>
    cases x with
    | lst ds =>
    obtain ⟨v, e1, a, _, rfl, ha, ⟨vs, rfl, hl⟩, nf, _⟩ := s.hs.at_ k _ e
    refine ⟨.ref a, e1, .inl ⟨rfl, _, .of ha⟩, ?_⟩
    refine r.on s h eo fun w d F' H' n' s' g hw hk eo' => ?_
    obtain ⟨v', e1', a', _, ev, ha', ⟨vs', rfl, hl'⟩, nf', _⟩ := s'.hs.at_ k _ e
    rw [e1] at e1'
    cases e1'
    cases ev
    refine ⟨a, vs', w, rfl, rfl, ha', by rw [hl'.len]; exact hk.1, ?_⟩
    obtain ⟨s2, l2⟩ := s'.own_put e e1 ha' nf' (hl'.snoc hw)
    exact eo'.nx σ _ F' _ n' s2 l2 hk.2
    | _ => exact h.elim
end
end DL


set_option maxRecDepth 100000
set_option maxHeartbeats 2000000
/-! DL3: loops, comprehensions, functions by data. Own work. -/
namespace DL
open PySem PySem.Spec PyProof.Rows L2

/-! ### what is walked -/
structure Yld (J : It) (F : Addr → Prop) (H : Hp) (n : Nat) (ds : List D) : Prop where
  stop : ∀ i F' H' n', Later F H n F' H' n' → ds.length ≤ i → J.stop i H'
  go : ∀ i d F' H' n', Later F H n F' H' n' → PenB F' H' n' → ds[i]? = some d → J.go i H' ∧ ∀ x H'', J.yld i H' x H'' → ∃ F'', Grow F' H' n' F'' H'' n' ∧ Has F'' H'' x d
def RunI (W : WX) (wi : TI) (t : TD (List D)) : Prop := ∀ (F : Addr → Prop) (H : Hp) (n : Nat) (σ : L2.St) (ρ : Env') (K : List D → Nat → Prop) (X : XD → Nat → Prop) (R : It → Hp → Prop), HasS F H n σ ρ → t ρ K X n →
  (∀ J ds F' H' n', Grow F H n F' H' n' → Yld J F' H' n' ds → K ds n' → R J H') →
  (∀ cls od xd F' H' n', Grow F H n F' H' n' → HasX F' H' cls od xd → X xd n' → W cls od σ H') → wi σ H R
structure DI {ι : Type} (X : ι → Cx) (W : WX) (tg iter : Expr) (t : TD (List D)) : Prop where
  ex : ∃ wi, (∀ i, PI (X i) tg iter wi) ∧ RunI W wi t
theorem HasL.get {F : Addr → Prop} {H : Hp} : ∀ {vs : List V} {ds : List D} {i : Nat} {d : D}, HasL F H vs ds → ds[i]? = some d → ∃ v, vs[i]? = some v ∧ Has F H v d
  | _, _, _, _, .nil, e => by simp at e
  | _, _, 0, _, .cons h _, e => by simp at e; subst e; exact ⟨_, rfl, h⟩
  | _, _, i + 1, _, .cons _ l, e => by
    obtain ⟨v, h1, h2⟩ := HasL.get (i := i) l (by simpa using e)
    exact ⟨v, by simpa using h1, h2⟩
section
variable {X : Cx} {tg : Expr}
/-- a list or a tuple -/
def iSeq (tl : TE) : TI := fun σ H R => tl σ H fun x H1 => ∃ a xs, x = .ref a ∧ ((H1 a = some (.lst xs) ∧ R (Itl X.K a) H1) ∨ (H1 a = some (.tup xs) ∧ R (Itt X.K a) H1))
theorem pi_seq {l : Expr} {tl : TE} (hl : PE X l tl) : PI X tg l (iSeq (X := X) tl) := by
  refine ⟨fun pins s σ H R I h => ?_⟩
  refine thn (hl.run pins s σ H _ I h) fun v s1 ⟨x, H1, I1, r1, q1⟩ => ?_
  obtain ⟨a, xs, e, q⟩ := q1
  subst e
  cases r1
  have fp : ∀ b ∈ [s1.heap.objs.size], FpOk X pins H1 b := fun b hb => by
    have e : b = s1.heap.objs.size := by simpa using hb
    subst e
    exact I1.fpOk (Nat.le_refl _) (I1.hok.fresh (Nat.le_refl _))
  rcases q with ⟨ha, q⟩ | ⟨ha, q⟩
  · obtain ⟨its, rv, p, hz⟩ := I1.list (.of ha)
    refine wpAny_pyIter_list p.isList ?_
    exact ⟨s1.heap.objs.size, [s1.heap.objs.size], _, _, H1, rfl, I1.kept (t' := s1.toks) fun b o e => Heap.get?_push_of_some _ e, turn_list a _, ⟨_, Heap.get?_push_size _ rfl, rfl, rfl⟩, fp, q⟩
  · obtain ⟨its, rv, p, hz⟩ := I1.tuple (.of ha)
    refine wpAny_pyIter_tuple (show s1.heap.IsTuple a its.toArray from p) ?_
    exact ⟨s1.heap.objs.size, [s1.heap.objs.size], _, _, H1, rfl, I1.kept (t' := s1.toks) fun b o e => Heap.get?_push_of_some _ e, turn_tuple a _, ⟨_, Heap.get?_push_size _ rfl, rfl, rfl⟩, fp, q⟩
end
section
variable {ι : Type} {X : ι → Cx} {W : WX}
theorem yld_list {K : PySem.W.Frag} {F : Addr → Prop} {H : Hp} {n : Nat} {a : Addr} {vs : List V} {ds : List D} (f : F a) (ha : H a = some (.lst vs)) (hl : HasL F H vs ds) : Yld (Itl K a) F H n ds where
  stop := fun i F' H' n' l hi => ⟨vs, .of (l.keepL f ha .lst), by rw [hl.len]; exact hi⟩
  go := fun i d F' H' n' l pb e => by
    have ha' := l.keepL f ha .lst
    obtain ⟨v, e1, hv⟩ := (hl.later l).get e
    refine ⟨⟨vs, v, .of ha', e1⟩, fun x H'' y => ?_⟩
    obtain ⟨rfl, y⟩ := y
    have e2 := y vs (.of ha')
    rw [e1] at e2
    cases e2
    exact ⟨F', .refl pb, hv⟩
theorem yld_tup {K : PySem.W.Frag} {F : Addr → Prop} {H : Hp} {n : Nat} {a : Addr} {vs : List V} {ds : List D} (f : F a) (ha : H a = some (.tup vs)) (hl : HasL F H vs ds) : Yld (Itt K a) F H n ds where
  stop := fun i F' H' n' l hi => ⟨vs, .of (l.keepL f ha .tup), by rw [hl.len]; exact hi⟩
  go := fun i d F' H' n' l pb e => by
    have ha' := l.keepL f ha .tup
    obtain ⟨v, e1, hv⟩ := (hl.later l).get e
    refine ⟨⟨vs, v, .of ha', e1⟩, fun x H'' y => ?_⟩
    obtain ⟨rfl, y⟩ := y
    have e2 := y vs (.of ha')
    rw [e1] at e2
    cases e2
    exact ⟨F', .refl pb, hv⟩
theorem yld_scr {K : PySem.W.Frag} {F : Addr → Prop} {H : Hp} {n : Nat} {a : Addr} {ns : List Int} (h : (∃ o, F a ∧ H a = some (.frz o (.lst (ns.map V.int)))) ∨ ∀ H' : Hp, SqL K H' a (ns.map V.int)) : Yld (Itl K a) F H n (ns.map D.int) where
  stop := fun i F' H' n' l hi => ⟨ns.map V.int, h.elim (fun ⟨o, f, e⟩ => .inl (.inr ⟨o, l.keepL f e .frz⟩)) (fun k => k H'), by simpa using hi⟩
  go := fun i d F' H' n' l pb e => by
    have hs : SqL K H' a (ns.map V.int) := h.elim (fun ⟨o, f, e⟩ => .inl (.inr ⟨o, l.keepL f e .frz⟩)) (fun k => k H')
    rw [List.getElem?_map] at e
    obtain ⟨z, e1, e2⟩ := Option.map_eq_some_iff.mp e
    subst e2
    have e3 : (ns.map V.int)[i]? = some (.int z) := by rw [List.getElem?_map, e1]; rfl
    refine ⟨⟨ns.map V.int, _, hs, e3⟩, fun x H'' y => ?_⟩
    obtain ⟨rfl, y⟩ := y
    have e4 := y _ hs
    rw [e3] at e4
    cases e4
    exact ⟨F', .refl pb, .int _⟩
/-- the items of a list or tuple -/
def itemsOf : D → Wm (List D)
  | .lst ds => pure ds
  | .tup ds => pure ds
  | _ => Wm.fail
theorem DI.scr {tg l : Expr} {t : TD D} {K : PySem.W.Frag} (hK : ∀ i, (X i).K = K) (h : DE X W l t) : DI X W tg l (fun ρ => do match ← t ρ with | .scr K' ns _ => do Wm.need (K' = K); pure (ns.map D.int) | _ => Wm.fail) := by
  obtain ⟨te, p, r⟩ := h
  refine ⟨iList K te, fun i => by rw [← hK i]; exact pi_list (p i), fun F H n σ ρ Kd Kx R hs ht hq hx => ?_⟩
  refine r F H n σ ρ _ Kx _ hs ht (fun v d F1 H1 n1 g1 hv ht1 => ?_) hx
  cases hv with
  | @scr a K' ns tabs h _ =>
    obtain ⟨rfl, hk⟩ := ht1
    exact ⟨a, rfl, ⟨ns.map V.int, h.elim (fun ⟨o, f, e⟩ => .inl (.inr ⟨o, e⟩)) (fun k => k H1)⟩, hq _ _ F1 H1 n1 g1 (yld_scr h) hk⟩
  | _ => exact ht1.elim
theorem DI.seq {tg l : Expr} {t : TD D} {K : PySem.W.Frag} (hK : ∀ i, (X i).K = K) (h : DE X W l t) : DI X W tg l (fun ρ => do itemsOf (← t ρ)) := by
  obtain ⟨te, p, r⟩ := h
  refine ⟨fun σ H R => te σ H fun x H1 => ∃ a xs, x = .ref a ∧ ((H1 a = some (.lst xs) ∧ R (Itl K a) H1) ∨ (H1 a = some (.tup xs) ∧ R (Itt K a) H1)), fun i => by rw [← hK i]; exact pi_seq (p i), fun F H n σ ρ Kd Kx R hs ht hq hx => ?_⟩
  refine r F H n σ ρ _ Kx _ hs ht (fun v d F1 H1 n1 g1 hv ht1 => ?_) hx
  cases hv with
  | @lst a vs ds f ha hl => exact ⟨a, vs, rfl, .inl ⟨ha, hq _ ds F1 H1 n1 g1 (yld_list f ha hl) ht1⟩⟩
  | @tup a vs ds f ha hl => exact ⟨a, vs, rfl, .inr ⟨ha, hq _ ds F1 H1 n1 g1 (yld_tup f ha hl) ht1⟩⟩
  | _ => exact ht1.elim
def rangeD (lo : Int) (k : Nat) : List D := (List.range k).map fun (j : Nat) => .int (lo + j)
theorem yld_range {F : Addr → Prop} {H : Hp} {n : Nat} {lo : Int} {k : Nat} : Yld (Itr lo k) F H n (rangeD lo k) where
  stop := fun i F' H' n' l hi => by
    have : k ≤ i := by simpa [rangeD] using hi
    exact this
  go := fun i d F' H' n' l pb e => by
    unfold rangeD at e
    rw [List.getElem?_map] at e
    obtain ⟨j, e1, e2⟩ := Option.map_eq_some_iff.mp e
    have hj : i < k ∧ j = i := by
      obtain ⟨h1, h2⟩ := List.getElem?_eq_some_iff.mp e1
      simp at h1 h2
      exact ⟨h1, h2.symm⟩
    obtain ⟨hk, rfl⟩ := hj
    refine ⟨hk, fun x H'' y => ?_⟩
    obtain ⟨rfl, rfl⟩ := y
    subst e2
    exact ⟨F', .refl pb, .int _⟩
/-- range's bounds -/
def Small62 (i : Int) : Prop := -(2 ^ 62) ≤ i ∧ i < 2 ^ 62
def rangeOf : List D → Wm (List D)
  | [.int j] => do Wm.need (Small62 j); pure (rangeD 0 j.toNat)
  | _ => Wm.fail
def rangeOf2 : List D → Wm (List D)
  | [.int i, .int j] => do Wm.need (Small62 i ∧ Small62 j); pure (rangeD i (j - i).toNat)
  | _ => Wm.fail
theorem DI.range1 {tg a : Expr} {t : TD (List D)} {p pos : Pos} (hg : ∀ i, Gl (X i) "range") (hm : ∀ i, (X i).mg "range" = none) (h : DA X W [a] t) (hs : ∀ i, starEach [a] (X i).env = [(false, eval a (X i).env)] := by intro _; rfl) :
    DI X W tg (.Call (.Name "range" p) [a] [] pos) (fun ρ => do rangeOf (← t ρ)) := by
  obtain ⟨ta, pa, r⟩ := h
  refine ⟨_, fun i => pi_range1 (hg i) (hm i) (pa i) (hs i), fun F H n σ ρ Kd Kx R hs ht hq hx => ?_⟩
  refine r F H n σ ρ _ Kx _ hs ht (fun vs ds F1 H1 n1 g1 hv ht1 => ?_) hx
  cases hv with
  | nil => exact ht1.elim
  | cons h1 h2 =>
    cases h2 with
    | nil =>
      cases h1 with
      | int j => exact ⟨j, rfl, ht1.1.1, ht1.1.2, hq _ _ F1 H1 n1 g1 yld_range ht1.2⟩
      | _ => exact ht1.elim
    | cons h2 h3 => cases h1 <;> exact ht1.elim
theorem DI.range2 {tg a b : Expr} {t : TD (List D)} {p pos : Pos} (hg : ∀ i, Gl (X i) "range") (hm : ∀ i, (X i).mg "range" = none) (h : DA X W [a, b] t) (hs : ∀ i, starEach [a, b] (X i).env = [(false, eval a (X i).env), (false, eval b (X i).env)] := by intro _; rfl)
    (hs2 : ∀ i, starEach [b] (X i).env = [(false, eval b (X i).env)] := by intro _; rfl) :
    DI X W tg (.Call (.Name "range" p) [a, b] [] pos) (fun ρ => do rangeOf2 (← t ρ)) := by
  obtain ⟨ta, pa, r⟩ := h
  refine ⟨_, fun i => pi_range2 (hg i) (hm i) (pa i) (hs i) (hs2 i), fun F H n σ ρ Kd Kx R hs ht hq hx => ?_⟩
  refine r F H n σ ρ _ Kx _ hs ht (fun vs ds F1 H1 n1 g1 hv ht1 => ?_) hx
  cases hv with
  | nil => exact ht1.elim
  | cons h1 h2 =>
    cases h2 with
    | nil => cases h1 <;> exact ht1.elim
    | cons h2 h3 =>
      cases h3 with
      | nil =>
        cases h1 <;> cases h2 <;> first | exact ht1.elim | skip
        rename_i i j
        exact ⟨i, j, rfl, ⟨ht1.1.1.1, ht1.1.1.2, ht1.1.2.1, ht1.1.2.2⟩, hq _ _ F1 H1 n1 g1 yld_range ht1.2⟩
      | cons h4 h5 => cases h1 <;> cases h2 <;> exact ht1.elim

/-! ### for -/
def forD (g : TDG) (tb : TDS) : List D → TDS
  | [], E, ρ, n => E.nx ρ n
  | d :: ds, E, ρ, n => match g d ρ with
    | some ρ' => tb { E with nx := fun ρ'' n'' => forD g tb ds E ρ'' n'', ct := fun ρ'' n'' => forD g tb ds E ρ'' n'', bk := E.nx, nl := False } ρ' n
    | none => False
def dFor (ti : TD (List D)) (g : TDG) (tb : TDS) : TDS := fun E ρ n => ti ρ (fun ds n' => forD g tb ds E ρ n') (fun x n' => E.ex x ρ n') n
theorem DS.for {tg iter : Expr} {body : List Stmt} {ti : TD (List D)} {g : TDG} {us : List Nat} {tb : TDS} {pos : Pos} (hp : ∀ i, PassesOwn (model (X i).prog (X i).w) (X i).A (X i).env (X i).xe) (hc : ∀ i, (X i).calm = true) (hi : DI X W tg iter ti) (hg : DG X tg g us) (hb : DSs X W body tb)
    (hs : ∀ i x, foldedSetIterable iter (X i).env x = pure x := by intro _ _; rfl) : DS X W (.For tg iter body [] pos) (dFor ti g tb) := by
  obtain ⟨wi, pi, ri⟩ := hi
  obtain ⟨tgk, pg, rg⟩ := hg
  obtain ⟨ts, pb, rb⟩ := hb
  refine ⟨_, fun i => ps_for (hp i) (hc i) (pi i) (pg i) (pb i) (hs i), fun B F H n σ ρ E Z s h eo => ?_⟩
  refine ri F H n σ ρ _ _ _ s.hs h (fun J ds F1 H1 n1 g1 y hk => ?_) fun cls od xd F' H' n' g hx he => eo.ex cls od xd σ ρ F' H' n' (s.mono g) g.later hx he
  refine ⟨fun i m σ H => m = ds.length - i ∧ i ≤ ds.length ∧ ∃ F n ρ, Stt B F H n σ ρ ∧ Later F1 H1 n1 F H n ∧ forD g tb (ds.drop i) E ρ n, ⟨ds.length, by simp, Nat.zero_le _, F1, n1, ρ, s.mono g1, .refl, hk⟩, ?_⟩
  rintro i m σ2 H2 ⟨rfl, hle, F2, n2, ρ2, s2, l2, h2⟩
  by_cases hlt : i < ds.length
  · have ei : ds[i]? = some ds[i] := List.getElem?_eq_getElem hlt
    obtain ⟨go, yy⟩ := y.go i ds[i] F2 H2 n2 l2 s2.hs.pb ei
    have ed : ds.drop i = ds[i] :: ds.drop (i + 1) := List.drop_eq_getElem_cons hlt
    rw [ed] at h2
    have h2 : (match g ds[i] ρ2 with
      | some ρ' => tb { E with nx := fun ρ'' n'' => forD g tb (ds.drop (i + 1)) E ρ'' n'', ct := fun ρ'' n'' => forD g tb (ds.drop (i + 1)) E ρ'' n'', bk := E.nx, nl := False } ρ' n2
      | none => False) := h2
    refine .inr ⟨go, fun σ3 H3 => ∃ F n ρ, Stt B F H3 n σ3 ρ ∧ Later F1 H1 n1 F H3 n ∧ forD g tb (ds.drop (i + 1)) E ρ n, fun σ3 H3 ⟨F3, n3, ρ3, s3, l3, h3⟩ => ⟨ds.length - (i + 1), by omega, rfl, hlt, F3, n3, ρ3, s3, l3, h3⟩, fun x H'' hy => ?_⟩
    obtain ⟨F'', g2, hx⟩ := yy x H'' hy
    cases q : g ds[i] ρ2 with
    | none => rw [q] at h2; exact h2.elim
    | some ρ' =>
      rw [q] at h2
      refine rg F'' H'' n2 σ2 ρ2 ρ' x ds[i] _ (s2.mono g2).hs hx q fun σ' s'' o => ?_
      have s' := (s2.mono g2).only s'' o
      have la : Later F1 H1 n1 F'' H'' n2 := l2.trans g2.later
      refine rb B F'' H'' n2 σ' ρ' _ _ s' h2 ⟨fun σ4 ρ4 F4 H4 n4 s4 l4' h4 => have l4 := l4'.resolve_left (fun z => z); ⟨F4, n4, ρ4, s4, la.trans l4, h4⟩, fun σ4 ρ4 F4 H4 n4 s4 l4' h4 => have l4 := l4'.resolve_left (fun z => z); eo.nx σ4 ρ4 F4 H4 n4 s4 (g1.later.trans (la.trans l4)) h4,
        fun σ4 ρ4 F4 H4 n4 s4 l4' h4 => have l4 := l4'.resolve_left (fun z => z); ⟨F4, n4, ρ4, s4, la.trans l4, h4⟩, eo.rt, fun cls od xd σ4 ρ4 F4 H4 n4 s4 l4' hx he => have l4 := l4'.resolve_left (fun z => z); eo.ex cls od xd σ4 ρ4 F4 H4 n4 s4 (g1.later.trans (la.trans l4)) hx he, fun z => z.elim⟩
  · have e : i = ds.length := by omega
    subst e
    rw [List.drop_length] at h2
    exact .inl ⟨y.stop _ F2 H2 n2 l2 (Nat.le_refl _), eo.nx σ2 ρ2 F2 H2 n2 s2 (g1.later.trans l2) h2⟩

/-! ### while -/
def whileD (c : TD Bool) (tb : TDS) : Nat → TDS
  | 0, _, _, _ => False
  | k + 1, E, ρ, n => onT c (fun b ρ' n' => if b = true then tb { E with nx := fun ρ'' n'' => whileD c tb k E ρ'' n'', ct := fun ρ'' n'' => whileD c tb k E ρ'' n'', bk := E.nx, nl := False } ρ' n' else E.nx ρ' n') E ρ n
def dWhile (c : TD Bool) (tb : TDS) : TDS := fun E ρ n => ∃ k, whileD c tb k E ρ n
theorem DS.while {c : Expr} {body : List Stmt} {tc : TD Bool} {tb : TDS} {pos : Pos} (hp : ∀ i, PassesOwn (model (X i).prog (X i).w) (X i).A (X i).env (X i).xe) (hc : DT X W c tc) (hb : DSs X W body tb) : DS X W (.While c body [] pos) (dWhile tc tb) := by
  obtain ⟨tt, pt, rt⟩ := hc
  obtain ⟨ts, pb, rb⟩ := hb
  refine ⟨_, fun i => ps_while (hp i) (pt i) (pb i), fun B F H n σ ρ E Z s h eo => ?_⟩
  obtain ⟨k, h⟩ := h
  refine ⟨fun m σ H' => ∃ F' n' ρ, Stt B F' H' n' σ ρ ∧ Later F H n F' H' n' ∧ whileD tc tb m E ρ n', ⟨k, F, n, ρ, s, .refl, h⟩, ?_⟩
  rintro m σ2 H2 ⟨F2, n2, ρ2, s2, l2, h2⟩
  cases m with
  | zero => exact h2.elim
  | succ m =>
    have h2 : onT tc (fun b ρ' n' => if b = true then tb { E with nx := fun ρ'' n'' => whileD tc tb m E ρ'' n'', ct := fun ρ'' n'' => whileD tc tb m E ρ'' n'', bk := E.nx, nl := False } ρ' n' else E.nx ρ' n') E ρ2 n2 := h2
    refine rt.on s2 h2 (eo.later l2) fun b F3 H3 n3 s3 g3 hk eo3 => ?_
    cases b with
    | false => exact iteF (eo3.nx σ2 ρ2 F3 H3 n3 s3 .refl (by simpa using hk))
    | true =>
      have la : Later F H n F3 H3 n3 := l2.trans g3.later
      rw [if_pos rfl] at hk
      refine iteT ⟨fun σ4 H4 => ∃ F4 n4 ρ4, Stt B F4 H4 n4 σ4 ρ4 ∧ Later F H n F4 H4 n4 ∧ whileD tc tb m E ρ4 n4, fun σ4 H4 h4 => ⟨m, Nat.lt_succ_self m, h4⟩, ?_⟩
      exact rb B F3 H3 n3 σ2 ρ2 _ _ s3 hk ⟨fun σ4 ρ4 F4 H4 n4 s4 l4' h4 => have l4 := l4'.resolve_left (fun z => z); ⟨F4, n4, ρ4, s4, la.trans l4, h4⟩, fun σ4 ρ4 F4 H4 n4 s4 l4' h4 => have l4 := l4'.resolve_left (fun z => z); eo3.nx σ4 ρ4 F4 H4 n4 s4 l4 h4,
        fun σ4 ρ4 F4 H4 n4 s4 l4' h4 => have l4 := l4'.resolve_left (fun z => z); ⟨F4, n4, ρ4, s4, la.trans l4, h4⟩, eo.rt, fun cls od xd σ4 ρ4 F4 H4 n4 s4 l4' hx he => have l4 := l4'.resolve_left (fun z => z); eo3.ex cls od xd σ4 ρ4 F4 H4 n4 s4 l4 hx he, fun z => z.elim⟩
end

/-! ### a def by its body -/
/-- what a body gives for data -/
def bodyW (t : TDS) (N : Nat) (ds : List D) : Wm D := fun K X n => t { nx := fun _ n' => K .non n', rt := K, bk := fun _ _ => False, ct := fun _ _ => False, ex := fun x _ n' => X x n' } (ds.map (fun d => some (.d d)) ++ List.replicate (N - ds.length) none) n
theorem start_hasS {F : Addr → Prop} {H : Hp} {n : Nat} {vs : List V} {ds : List D} {N : List Str} (pb : PenB F H n) (h : HasL F H vs ds) : HasS F H n (L2.start N vs) (ds.map (fun d => some (.d d)) ++ List.replicate (N.length - ds.length) none) := by
  refine ⟨pb, by simp [L2.start, h.len], fun i x e => ?_⟩
  unfold L2.start
  by_cases hi : i < ds.length
  · rw [List.getElem?_append_left (by simpa using hi), List.getElem?_map] at e
    obtain ⟨d, e1, e2⟩ := Option.map_eq_some_iff.mp e
    cases e2
    obtain ⟨v, e3, hv⟩ := h.get e1
    refine ⟨v, ?_, hv⟩
    rw [List.getElem?_append_left (by simpa [h.len] using hi), List.getElem?_map, e3]
    rfl
  · rw [List.getElem?_append_right (by simpa using Nat.le_of_not_lt hi), List.getElem?_replicate] at e
    split at e <;> cases e
theorem start_noml {ds : List D} {N i : Nat} {es : Own} : (ds.map (fun d => some (SV.d d)) ++ List.replicate (N - ds.length) none)[i]? ≠ some (some (.m es)) := by
  intro e
  by_cases hi : i < ds.length
  · rw [List.getElem?_append_left (by simpa using hi), List.getElem?_map] at e
    obtain ⟨d, e1, e2⟩ := Option.map_eq_some_iff.mp e
    cases e2
  · rw [List.getElem?_append_right (by simpa using Nat.le_of_not_lt hi), List.getElem?_replicate] at e
    split at e <;> cases e
/-- the context of a def's body -/
abbrev bCx (P : Program) (w : World) (K : PySem.W.Frag) (mg : Str → Option Value) (base : Heap) (N : List Str) (qual : Str) (st : Stmt) (f : Addr) (cdv : Value) (A : Around) (outer : List Env) (s : Shared) (H : Hp) (E : XK) : Unit → Cx :=
  fun _ => cxOf (L2.CX P w) P w K mg base N qual (defScope st) f cdv A outer s H E
abbrev bW (E : XK) : WX := fun cls d _ H => E cls d H
theorem fn_ok {P : Program} {w : World} {K : PySem.W.Frag} {mg : Str → Option Value} {base : Heap} {x qual : Str} {st : Stmt} {f : Addr} {fd : FuncData} {N ps : List Str} {k : Nat} {t : TDS} {w' : List D → Wm D} (F : Fun K x qual st f fd) (S : FnScope N ps (defScope st))
    (hbody : ∀ (cdv : Value) (A : Around) (outer : List Env) (s : Shared) (H : Hp) (E : XK), A.guards = some [] → Room k (A.deeper (envOfC qual (defScope st) s.heap.objs.size f cdv)) → DSs (bCx P w K mg base N qual st f cdv A outer s H E) (bW E) (defBody st) t)
    (hw : ∀ ds Kd Kx n, ds.length = ps.length → w' ds Kd Kx n → bodyW t N.length ds Kd Kx n) : FnG P w K mg base (k + 1) f fd ps (spD ps.length w') := by
  refine FnG.of F S (fun vs H Q E h => h.1) fun cdv _ A outer s H vs Q E hg hr h => ?_
  obtain ⟨hl, F0, n, ds, Kd, Kx, pb, hv, hw', hq, hx⟩ := h
  obtain ⟨ts, p, r⟩ := hbody cdv A outer s H E hg hr
  refine ⟨ts, p (), ?_⟩
  have hd : ds.length = ps.length := by rw [← hv.len]; exact hl
  have h0 := hw ds Kd Kx n hd hw'
  refine r ⟨F0, H, n⟩ F0 H n _ _ _ _ ⟨.refl pb, start_hasS pb hv, fun i es a e => absurd e start_noml, fun i j es fs a _ e => absurd e start_noml⟩ h0 ⟨fun σ' ρ' F' H' n' s' l hn => hq .non .non F' H' n' s'.grow .non hn, fun _ _ _ _ _ _ _ z => z.elim, fun _ _ _ _ _ _ _ z => z.elim,
    fun v d F' H' n' g hv' hk => hq v d F' H' n' g hv' hk, fun cls od xd σ' ρ' F' H' n' s' l hx' he => hx cls od xd F' H' n' s'.grow hx' he, fun z => z.elim⟩

/-- the same, where the cells' places are told -/
theorem fn_okL {P : Program} {w : World} {K : PySem.W.Frag} {mg : Str → Option Value} {base : Heap} {x qual : Str} {st : Stmt} {f : Addr} {fd : FuncData} {N ps : List Str} {k : Nat} {t : Nat → TDS} {w' : List D → Wm D} (F : Fun K x qual st f fd) (S : FnScope N ps (defScope st))
    (hbody : ∀ (cdv : Value), fd.code = cdv → ∀ (A : Around) (outer : List Env) (s : Shared) (H : Hp) (E : XK) (L : Nat), s.heap.objs.size = L → A.guards = some [] → Room k (A.deeper (envOfC qual (defScope st) s.heap.objs.size f cdv)) → DSs (bCx P w K mg base N qual st f cdv A outer s H E) (bW E) (defBody st) (t L))
    (hw : ∀ L ds Kd Kx n, ds.length = ps.length → w' ds Kd Kx n → bodyW (t L) N.length ds Kd Kx n) : FnG P w K mg base (k + 1) f fd ps (spD ps.length w') := by
  refine FnG.of F S (fun vs H Q E h => h.1) fun cdv hcd A outer s H vs Q E hg hr h => ?_
  obtain ⟨hl, F0, n, ds, Kd, Kx, pb, hv, hw', hq, hx⟩ := h
  obtain ⟨ts, p, r⟩ := hbody cdv hcd A outer s H E _ rfl hg hr
  refine ⟨ts, p (), ?_⟩
  have hd : ds.length = ps.length := by rw [← hv.len]; exact hl
  have h0 := hw s.heap.objs.size ds Kd Kx n hd hw'
  refine r ⟨F0, H, n⟩ F0 H n _ _ _ _ ⟨.refl pb, start_hasS pb hv, fun i es a e => absurd e start_noml, fun i j es fs a _ e => absurd e start_noml⟩ h0 ⟨fun σ' ρ' F' H' n' s' l hn => hq .non .non F' H' n' s'.grow .non hn, fun _ _ _ _ _ _ _ z => z.elim, fun _ _ _ _ _ _ _ z => z.elim,
    fun v d F' H' n' g hv' hk => hq v d F' H' n' g hv' hk, fun cls od xd σ' ρ' F' H' n' s' l hx' he => hx cls od xd F' H' n' s'.grow hx' he, fun z => z.elim⟩

/-! ### comprehensions -/
section
variable {ι : Type} {X : ι → Cx} {W : WX}
/-- the block's contexts -/
abbrev blkX (X : ι → Cx) (scope : Scope) : ι × Shared × Hp × Addr × List (Str × Addr) × List Addr → Cx := fun p => (X p.1).blk p.2.1 p.2.2.1 scope (compEnvC scope p.2.2.2.2.1 p.2.2.2.1 (X p.1).env) p.2.2.2.2.2
/-- no exception leaves it -/
abbrev W0 : WX := fun _ _ _ _ => False
def wipeD (ρ : Env') : List Nat → Env'
  | [] => ρ
  | v :: vs => (wipeD ρ vs).set v none
/-- turn by turn -/
def lcD (g : TDG) (tt : TD Bool) (te : TD D) : List D → Env' → List D → Wm (List D)
  | [], _, acc => pure acc
  | d :: ds, ρ, acc => match g d ρ with
    | some ρ' => do if ← calm (tt ρ') then (do let y ← calm (te ρ'); Wm.need (acc.length < sizeLine); lcD g tt te ds ρ (acc ++ [y])) else lcD g tt te ds ρ acc
    | none => Wm.fail
def dLc (ti : TD (List D)) (g : TDG) (tt : TD Bool) (te : TD D) (vs : List Nat) : TD D := fun ρ => do let ds ← ti ρ; let ys ← lcD g tt te ds (wipeD ρ vs) []; pure (.lst ys)

theorem wipe_get {σ : L2.St} {vs : List Nat} {i : Nat} : (wipe σ vs)[i]? = if i ∈ vs ∧ i < σ.length then some none else σ[i]? := by
  induction vs with
  | nil => simp [wipe]
  | cons v vs ih =>
    unfold wipe
    by_cases hv : v = i
    · subst hv
      by_cases hl : v < σ.length
      · rw [List.getElem?_set_self (by rw [wipe_length]; exact hl), if_pos ⟨by simp, hl⟩]
      · rw [List.getElem?_eq_none (by simp [wipe_length]; omega), if_neg (fun z => hl z.2), List.getElem?_eq_none (by omega)]
    · rw [List.getElem?_set_ne hv, ih]
      have hm : i ∈ v :: vs ↔ i ∈ vs := by simp [Ne.symm hv]
      simp [hm]
theorem wipeD_get {ρ : Env'} {vs : List Nat} {i : Nat} : (wipeD ρ vs)[i]? = if i ∈ vs ∧ i < ρ.length then some none else ρ[i]? := by
  have len : ∀ vs : List Nat, (wipeD ρ vs).length = ρ.length := fun vs => by
    induction vs with
    | nil => rfl
    | cons v vs ih => unfold wipeD; rw [List.length_set, ih]
  induction vs with
  | nil => simp [wipeD]
  | cons v vs ih =>
    unfold wipeD
    by_cases hv : v = i
    · subst hv
      by_cases hl : v < ρ.length
      · rw [List.getElem?_set_self (by rw [len]; exact hl), if_pos ⟨by simp, hl⟩]
      · rw [List.getElem?_eq_none (by rw [List.length_set, len]; omega), if_neg (fun z => hl z.2), List.getElem?_eq_none (by omega)]
    · rw [List.getElem?_set_ne hv, ih]
      have hm : i ∈ v :: vs ↔ i ∈ vs := by simp [Ne.symm hv]
      simp [hm]
theorem wipeD_length {ρ : Env'} : ∀ {vs : List Nat}, (wipeD ρ vs).length = ρ.length
  | [] => rfl
  | v :: vs => by unfold wipeD; rw [List.length_set, wipeD_length]
theorem HasS.wipe {F : Addr → Prop} {H : Hp} {n : Nat} {σ : L2.St} {ρ : Env'} (h : HasS F H n σ ρ) (vs : List Nat) : HasS F H n (L2.wipe σ vs) (wipeD ρ vs) := by
  refine ⟨h.pb, by rw [wipe_length, wipeD_length, h.len], fun i x e => ?_⟩
  rw [wipeD_get] at e
  rw [wipe_get]
  by_cases hc : i ∈ vs ∧ i < ρ.length
  · rw [if_pos hc] at e
    cases e
  · rw [if_neg hc] at e
    rw [if_neg (by rw [h.len]; exact hc)]
    exact h.at_ i x e
theorem Only.wipe {ts vs : List Nat} {σ σ' : L2.St} {ρ ρ' : Env'} (o : Only ts (L2.wipe σ vs) σ' ρ ρ') (hs : ∀ i ∈ ts, i ∈ vs) : L2.wipe σ' vs = L2.wipe σ vs := by
  apply List.ext_getElem?
  intro i
  have hl : σ'.length = σ.length := by rw [o.ls, wipe_length]
  rw [wipe_get, wipe_get, hl]
  by_cases hc : i ∈ vs ∧ i < σ.length
  · rw [if_pos hc, if_pos hc]
  · rw [if_neg hc, if_neg hc]
    by_cases hi : i ∈ ts
    · have h1 : ¬ i < σ.length := fun z => hc ⟨hs i hi, z⟩
      rw [List.getElem?_eq_none (by omega), List.getElem?_eq_none (by omega)]
    · rw [(o.out i hi).1, wipe_get, if_neg hc]
structure DTs {ι : Type} (X : ι → Cx) (W : WX) (es : List Expr) (t : TD Bool) : Prop where
  ex : ∃ tt, (∀ i, PTs (X i) es tt) ∧ RunT W tt t
theorem DTs.nil : DTs X W [] (fun _ => pure true) := ⟨_, fun _ => pts_nil, fun F H n σ ρ K Kx Q hs ht hq _ => hq true F H n (.refl hs.pb) ht⟩
theorem DTs.one {c : Expr} {t : TD Bool} (h : DT X W c t) : DTs X W [c] t := let ⟨tt, p, r⟩ := h; ⟨tt, fun i => pts_one (p i), r⟩
/-- what a comprehension's reading is worth -/
theorem run_lc {wi : TI} {tgk : TG} {tt : TT} {te : TE} {ti : TD (List D)} {g : TDG} {us : List Nat} {ct : TD Bool} {ce : TD D} {vs : List Nat} (ri : RunI W wi ti) (rg : RunG tgk g us) (rt : RunT W0 tt ct) (re : RunE W0 te ce) (hus : ∀ i ∈ us, i ∈ vs) : RunE W (tLc wi tgk tt te vs) (dLc ti g ct ce vs) := by
  intro F H n σ ρ K Kx Q hs ht hq hx
  refine ri F H n σ ρ _ Kx _ hs ht (fun J ds F1 H1 n1 g1 y hk L hL => ?_) hx
  have hs1 := (hs.mono g1).wipe vs
  -- the turns
  have nF1 : ¬ F1 L := fun f => by
    obtain ⟨o, e⟩ := g1.pb.dom L f
    rw [hL] at e
    cases e
  refine ⟨fun i m H' => m = ds.length - i ∧ i ≤ ds.length ∧ ∃ F' n' av acc, Grow F1 H1 n1 F' H' n' ∧ ¬ F' L ∧ H' L = some (.lst av) ∧ HasL F' H' av acc ∧ (lcD g ct ce (ds.drop i) (wipeD ρ vs) acc).bind (fun ys => (pure (.lst ys) : Wm D)) K Kx n',
    ⟨ds.length, by simp, Nat.zero_le _, F1, n1, [], [], ?_, nF1, upd_same, .nil, hk⟩, ?_⟩
  · have g0 : Grow F1 H1 n1 (plusF F1 L) (upd H1 L (.lst [])) n1 := .laid g1.pb hL .lst
    exact ⟨g0.keep, fun _ f => f, fun _ f => .inl f, g1.pb.put nF1 .lst, Nat.le_refl _⟩
  rintro i m H2 ⟨rfl, hle, F2, n2, av, acc, g2, nF2, hL2, hacc, h2⟩
  by_cases hlt : i < ds.length
  · have ei : ds[i]? = some ds[i] := List.getElem?_eq_getElem hlt
    obtain ⟨go, yy⟩ := y.go i ds[i] F2 H2 n2 g2.later g2.pb ei
    have ed : ds.drop i = ds[i] :: ds.drop (i + 1) := List.drop_eq_getElem_cons hlt
    rw [ed] at h2
    refine .inr ⟨go, fun H' => ∃ F' n' av acc, Grow F1 H1 n1 F' H' n' ∧ ¬ F' L ∧ H' L = some (.lst av) ∧ HasL F' H' av acc ∧ (lcD g ct ce (ds.drop (i + 1)) (wipeD ρ vs) acc).bind (fun ys => (pure (.lst ys) : Wm D)) K Kx n',
      fun H' h => ⟨ds.length - (i + 1), by omega, rfl, hlt, h⟩, fun x H3 hy => ?_⟩
    obtain ⟨F3, g3, hxv⟩ := yy x H3 hy
    have keepL : ∀ {F' : Addr → Prop} {H' : Hp} {n' : Nat}, Grow F2 H2 n2 F' H' n' → ¬ F' L ∧ H' L = some (.lst av) := fun {F' H' n'} g => ⟨fun f => (g.new L f).elim nF2 fun z => (by rw [hL2] at z; cases z), g.keepL hL2 .lst⟩
    cases q : g ds[i] (wipeD ρ vs) with
    | none =>
      have h2 : (match g ds[i] (wipeD ρ vs) with
        | some ρ' => (do if ← calm (ct ρ') then (do let y ← calm (ce ρ'); Wm.need (acc.length < sizeLine); lcD g ct ce (ds.drop (i + 1)) (wipeD ρ vs) (acc ++ [y])) else lcD g ct ce (ds.drop (i + 1)) (wipeD ρ vs) acc : Wm (List D))
        | none => Wm.fail).bind (fun ys => (pure (.lst ys) : Wm D)) K Kx n2 := h2
      rw [q] at h2
      exact h2.elim
    | some ρ' =>
      have h2 : (match g ds[i] (wipeD ρ vs) with
        | some ρ' => (do if ← calm (ct ρ') then (do let y ← calm (ce ρ'); Wm.need (acc.length < sizeLine); lcD g ct ce (ds.drop (i + 1)) (wipeD ρ vs) (acc ++ [y])) else lcD g ct ce (ds.drop (i + 1)) (wipeD ρ vs) acc : Wm (List D))
        | none => Wm.fail).bind (fun ys => (pure (.lst ys) : Wm D)) K Kx n2 := h2
      rw [q] at h2
      have gs := g2.trans g3
      refine rg F3 H3 n2 (wipe σ vs) (wipeD ρ vs) ρ' x ds[i] _ (hs1.mono gs) hxv q fun σ' s' o => ⟨o.wipe hus, ?_⟩
      refine rt F3 H3 n2 σ' ρ' _ XFalse _ s' h2 (fun b F4 H4 n4 g4 hb => ?_) fun _ _ _ _ _ _ _ _ z => z.elim
      have g34 := g3.trans g4
      obtain ⟨nF4, hL4⟩ := keepL g34
      cases b with
      | false => exact iteF ⟨F4, n4, av, acc, g2.trans g34, nF4, hL4, hacc.mono g34, hb⟩
      | true =>
        refine iteT (re F4 H4 n4 σ' ρ' _ XFalse _ (s'.mono g4) hb (fun v d F5 H5 n5 g5 hv hd => ?_) fun _ _ _ _ _ _ _ _ z => z.elim)
        have g35 := g34.trans g5
        obtain ⟨nF5, hL5⟩ := keepL g35
        have ha5 := hacc.mono g35
        refine ⟨av, hL5, by rw [ha5.len]; exact hd.1, F5, n5, av ++ [v], acc ++ [d], ?_, nF5, upd_same, (ha5.snoc hv).out nF5, hd.2⟩
        have gg := g2.trans g35
        refine ⟨fun a o e => ?_, gg.sub, gg.new, gg.pb.put nF5 .lst, gg.le⟩
        · have ne : a ≠ L := ne_of_none e hL
          rw [upd_ne ne]
          exact gg.keep a o e
  · have e : i = ds.length := by omega
    subst e
    rw [List.drop_length] at h2
    refine .inl ⟨y.stop _ F2 H2 n2 g2.later (Nat.le_refl _), ?_⟩
    -- the list is frozen
    have gl : Grow F1 H1 n1 (plusF F2 L) H2 n2 := ⟨g2.keep, fun a f => .inl (g2.sub a f), fun a f => f.elim (g2.new a) fun e => .inr (e ▸ hL), g2.pb.sup (fun _ => .inl) (fun a f => f.elim (g2.pb.dom a) fun e => ⟨_, e ▸ hL2⟩), g2.le⟩
    have l2 : Later F2 H2 n2 (plusF F2 L) H2 n2 := ⟨fun a o _ h => .inl h, fun a f => .inl f, Nat.le_refl _⟩
    exact hq _ (.lst acc) _ H2 n2 (g1.trans gl) (.lst plusF_same hL2 (hacc.later l2)) h2
theorem DE.lc {elt tg iter : Expr} {ifs : List Expr} {scope : Scope} {own : List (Str × Nat)} {pos : Pos} {ti : TD (List D)} {g : TDG} {us : List Nat} {ct : TD Bool} {ce : TD D} (hc : ∀ i, (X i).calm = true) (hN : ∀ i, (X i).N.Nodup) (hi : DI X W tg iter ti)
    (ok : ∀ i, BlkOk (X i).N (X i).env.scope scope own) (hg : DG (blkX X scope) tg g us) (ht : DTs (blkX X scope) W0 ifs ct) (he : DE (blkX X scope) W0 elt ce) (hus : ∀ i ∈ us, i ∈ own.map (·.2) := by decide)
    (hs : ∀ i x, foldedSetIterable iter (X i).env x = pure x := by intro _ _; rfl) : DE X W (.ListComp elt [⟨tg, iter, ifs, 0⟩] scope pos) (dLc ti g ct ce (own.map (·.2))) := by
  obtain ⟨wi, pi, ri⟩ := hi
  obtain ⟨tgk, pg, rg⟩ := hg
  obtain ⟨tt, pt, rt⟩ := ht
  obtain ⟨te, pe, re⟩ := he
  exact ⟨_, fun i => pe_lc (hc i) (hN i) (pi i) (ok i) (fun s H C cl fp => pg (i, s, H, C, cl, fp)) (fun s H C cl fp => pt (i, s, H, C, cl, fp)) (fun s H C cl fp => pe (i, s, H, C, cl, fp)) (hs i), run_lc ri rg rt re hus⟩
theorem DS.setLc {k : Nat} {y : Str} {py : Pos} {elt tg iter : Expr} {ifs : List Expr} {scope : Scope} {own : List (Str × Nat)} {pos spos : Pos} {ti : TD (List D)} {g : TDG} {us : List Nat} {ct : TD Bool} {ce : TD D} (hc : ∀ i, (X i).calm = true) (hN : ∀ i, (X i).N.Nodup)
    (hy : ∀ i, (X i).N[k]? = some y) (hyl : ∀ i, (X i).env.scope.names.lookup y = some .local) (hsw : ∀ i, swapsWith (.ListComp elt [⟨tg, iter, ifs, 0⟩] scope pos) (some (.Name y py)) spos.line (X i).env = pure true) (hi : DI X W tg iter ti)
    (ok : ∀ i, BlkOk (X i).N (X i).env.scope scope own) (hg : DG (blkX X scope) tg g us) (ht : DTs (blkX X scope) W0 ifs ct) (he : DE (blkX X scope) W0 elt ce) (hus : ∀ i ∈ us, i ∈ own.map (·.2) := by decide)
    (hs : ∀ i x, foldedSetIterable iter (X i).env x = pure x := by intro _ _; rfl) : DS X W (.Assign [.Name y py] (.ListComp elt [⟨tg, iter, ifs, 0⟩] scope pos) spos) (dAsg (dLc ti g ct ce (own.map (·.2))) (dName k)) := by
  obtain ⟨wi, pi, ri⟩ := hi
  obtain ⟨tgk, pg, rg⟩ := hg
  obtain ⟨tt, pt, rt⟩ := ht
  obtain ⟨te, pe, re⟩ := he
  refine ⟨_, fun i => ps_setLc (i := k) (hc i) (hN i) (hy i) (hyl i) (hsw i) (pi i) (ok i) (fun s H C cl fp => pg (i, s, H, C, cl, fp)) (fun s H C cl fp => pt (i, s, H, C, cl, fp)) (fun s H C cl fp => pe (i, s, H, C, cl, fp)) (hs i), fun B F H n σ ρ E Z s h eo => ?_⟩
  exact (run_lc ri rg rt re hus).on s h eo fun v d F' H' n' s' g' hv hk eo' => eo'.nx _ _ F' H' n' (s'.set hv) .refl hk
end
end DL


set_option maxRecDepth 100000
set_option maxHeartbeats 2000000
/-! DL4: operators and built-ins by data. Own work. -/
namespace DL
open PySem PySem.Spec PyProof.Rows L2

/-! ### arithmetic -/
section
variable {X : Cx}
def fInt (C : Int → Int → Prop) (g : Int → Int → Int) : D → D → Wm D
  | .int i, .int j => do Wm.need (C i j); pure (.int (g i j))
  | _, _ => Wm.fail
theorem sem_int {C : Int → Int → Prop} {g : Int → Int → Int} : Sem2 (rI C fun i j => .int (g i j)) (fInt C g) := by
  intro F H n x y a b K Q pb hx hy ht hq
  cases hx <;> cases hy <;> first | exact ht.elim | skip
  rename_i i j
  exact ⟨i, j, rfl, rfl, ht.1, hq _ _ F H n (.refl pb) (.int _) ht.2⟩
def fCmpI (g : Int → Int → Bool) : D → D → Wm D
  | .int i, .int j => pure (.bl (g i j))
  | _, _ => Wm.fail
theorem sem_cmpI {g : Int → Int → Bool} : Sem2 (rI0 fun i j => .bl (g i j)) (fCmpI g) := by
  intro F H n x y a b K Q pb hx hy ht hq
  cases hx <;> cases hy <;> first | exact ht.elim | skip
  rename_i i j
  exact ⟨i, j, rfl, rfl, hq _ _ F H n (.refl pb) (.bl _) ht⟩
def CDivA (_ j : Int) : Prop := j ≠ 0 ∧ j.natAbs.log2 < 9000
theorem op_fdivA : OpR X (binaryOp .FloorDiv) (rI CDivA fun i j => .int (i.fdiv j)) := opI fun _ _ _ _ _ _ _ hc q => floordiv_int hc.1 q (.inl (PyProof.noPylong_of_log2 hc.2))
def CMod (_ j : Int) : Prop := j ≠ 0
theorem op_modA : OpR X (binaryOp .Mod) (rI CMod fun i j => .int (i.fmod j)) := op_modN
/-- + -/
def fAdd : D → D → Wm D
  | .int i, .int j => pure (.int (i + j))
  | .str x, .str y => do Wm.need (Fits (x.length + y.length)); pure (.str (x ++ y))
  | .tup xs, .tup ys => do Wm.need (Fits (xs.length + ys.length)); pure (.tup (xs ++ ys))
  | .lst xs, .lst ys => do Wm.need (Fits (xs.length + ys.length)); pure (.lst (xs ++ ys))
  | _, _ => Wm.fail
def rAddA (K : PySem.W.Frag) : R2 := fun x y H Q => rI0 (fun i j => .int (i + j)) x y H Q ∨ (∃ i j, x = V.str i ∧ y = V.str j ∧ i.length + j.length ≤ sizeLine ∧ Q (.str (i ++ j)) H) ∨ rCatA K x y H Q ∨ rCat x y H Q
theorem op_addA : OpR X (binaryOp .Add) (rAddA X.K) := op_add.or (op_add_str.or (op_catA.or op_cat))
theorem HasL.app {F : Addr → Prop} {H : Hp} : ∀ {vs ws : List V} {ds es : List D}, HasL F H vs ds → HasL F H ws es → HasL F H (vs ++ ws) (ds ++ es)
  | _, _, _, _, .nil, g => g
  | _, _, _, _, .cons h l, g => .cons h (HasL.app l g)
theorem HasL.nil_iff {F : Addr → Prop} {H : Hp} {vs : List V} {ds : List D} (h : HasL F H vs ds) : vs = [] ↔ ds = [] := by
  cases h <;> simp
theorem sem_add {K : PySem.W.Frag} : Sem2 (rAddA K) fAdd := by
  intro F H n x y a b Kd Q pb hx hy ht hq
  cases hx <;> cases hy <;> first | exact ht.elim | skip
  case int.int i j => exact .inl ⟨i, j, rfl, rfl, hq _ _ F H n (.refl pb) (.int _) ht⟩
  case str.str i j => exact .inr (.inl ⟨i, j, rfl, rfl, ht.1, hq _ _ F H n (.refl pb) (.str _) ht.2⟩)
  case tup.tup a xs ds fa ha la b ys es fb hb lb =>
    refine .inr (.inr (.inl ⟨a, b, xs, ys, rfl, rfl, .of ha, .of hb, by rw [la.len, lb.len]; exact ht.1, fun e => ?_, fun _ e => ?_, fun _ _ p hp => ?_⟩))
    · subst e
      cases la
      exact hq _ _ F H n (.refl pb) (.tup fb hb lb) ht.2
    · subst e
      cases lb
      have ht2 : Kd (.tup (ds ++ [])) n := ht.2
      rw [List.append_nil] at ht2
      exact hq _ _ F H n (.refl pb) (.tup fa ha la) ht2
    · have g : Grow F H n (plusF F p) (upd H p (.tup (xs ++ ys))) n := .laid pb hp .tup
      exact hq _ _ _ _ n g (.tup plusF_same upd_same ((la.app lb).mono g)) ht.2
  case lst.lst a xs ds fa ha la b ys es fb hb lb =>
    refine .inr (.inr (.inr ⟨a, b, xs, ys, rfl, rfl, ha, hb, by rw [la.len, lb.len]; exact ht.1, fun p hp => ?_⟩))
    have g : Grow F H n (plusF F p) (upd H p (.lst (xs ++ ys))) n := .laid pb hp .lst
    exact hq _ _ _ _ n g (.lst plusF_same upd_same ((la.app lb).mono g)) ht.2
def fNeg : D → Wm D
  | .int i => pure (.int (-i))
  | _ => Wm.fail
theorem sem_neg : Sem1 (rU fun i => .int (-i)) fNeg := by
  intro F H n x a K Q pb hx ht hq
  cases hx <;> first | exact ht.elim | skip
  exact ⟨_, rfl, hq _ _ F H n (.refl pb) (.int _) ht⟩
/-- is of two bools, of None -/
def fIs : D → D → Wm D
  | .bl a, .bl b => pure (.bl (decide (a = b)))
  | _, _ => Wm.fail
theorem sem_isB : Sem2 rIsB fIs := by
  intro F H n x y a b K Q pb hx hy ht hq
  cases hx <;> cases hy <;> first | exact ht.elim | skip
  rename_i i j
  exact ⟨i, j, rfl, rfl, hq _ _ F H n (.refl pb) (.bl _) ht⟩
end

/-! ### data as the library's -/
mutual
def pyD : D → PyData
  | .non => .none
  | .bl b => .bool b
  | .int i => .int i
  | .str x => .str x
  | .tup ds => .tuple (pyL ds)
  | .lst ds => .list (pyL ds)
  | .dic ks ds => .dict ((ks.map fun k => match k with | .inl i => PyData.int i | .inr x => PyData.str x).zip (pyL ds))
  | _ => .none
def pyL : List D → List PyData
  | [] => []
  | d :: ds => pyD d :: pyL ds
end
mutual
/-- without dicts, objects -/
def flatD : D → Bool
  | .non | .bl _ | .int _ | .str _ => true
  | .tup ds | .lst ds => flatL ds
  | _ => false
def flatL : List D → Bool
  | [] => true
  | d :: ds => flatD d && flatL ds
end
mutual
theorem Has.dp {K : PySem.W.Frag} {F : Addr → Prop} {H : Hp} : ∀ {v : V} {d : D}, Has F H v d → flatD d = true → Dp K H v (pyD d)
  | _, _, .non, _ => by unfold pyD; exact .non
  | _, _, .bl b, _ => by unfold pyD; exact .bl b
  | _, _, .int i, _ => by unfold pyD; exact .int i
  | _, _, .str x, _ => by unfold pyD; exact .str x
  | _, _, .tup f h l, e => by unfold pyD; unfold flatD at e; exact .tup (.of h) (HasL.dp l e)
  | _, _, .lst f h l, e => by unfold pyD; unfold flatD at e; exact .lst (.of h) (HasL.dp l e)
  | _, _, .dic _ _ _ _ _, e => by unfold flatD at e; cases e
  | _, _, .obj _ _ _ _, e => by unfold flatD at e; cases e
  | _, _, .pen _ _ _ _ _ _, e => by unfold flatD at e; cases e
  | _, _, .clo0 _ _ _ _, e => by unfold flatD at e; cases e
  | _, _, .fnA _, e => by unfold flatD at e; cases e
  | _, _, .exc _ _ _ _ _ _, e => by unfold flatD at e; cases e
  | _, _, .exc0 _ _, e => by unfold flatD at e; cases e
  | _, _, .scr _ _, e => by unfold flatD at e; cases e
  | _, _, .clo1 _ _ _ _ _ _ _, e => by unfold flatD at e; cases e
theorem HasL.dp {K : PySem.W.Frag} {F : Addr → Prop} {H : Hp} : ∀ {vs : List V} {ds : List D}, HasL F H vs ds → flatL ds = true → DpAll K H vs (pyL ds)
  | _, _, .nil, _ => by unfold pyL; exact .nil
  | _, _, .cons h l, e => by
    unfold flatL at e
    obtain ⟨e1, e2⟩ := Bool.and_eq_true_iff.mp e
    unfold pyL
    exact .cons (Has.dp h e1) (HasL.dp l e2)
end
/-- may be compared by == -/
def EqOk (d : D) : Prop := flatD d = true ∧ SeqAt.shaped (pyD d) = true
def eqD (d e : D) : Bool := PyData.eqv (pyD d) (pyD e)
def fEq : D → D → Wm D := fun d e => do Wm.need (EqOk d ∧ EqOk e); pure (.bl (eqD d e))
def fNe : D → D → Wm D := fun d e => do Wm.need (EqOk d ∧ EqOk e); pure (.bl (!eqD d e))
theorem sem_eq {K : PySem.W.Frag} : Sem2 (rEqD K) fEq := by
  intro F H n x y a b Kd Q pb hx hy ht hq
  obtain ⟨⟨⟨f1, s1⟩, f2, s2⟩, hk⟩ := ht
  exact ⟨_, _, hx.dp f1, hy.dp f2, s1, s2, hq _ _ F H n (.refl pb) (.bl _) hk⟩
theorem sem_ne {K : PySem.W.Frag} : Sem2 (rNeD K) fNe := by
  intro F H n x y a b Kd Q pb hx hy ht hq
  obtain ⟨⟨⟨f1, s1⟩, f2, s2⟩, hk⟩ := ht
  exact ⟨_, _, hx.dp f1, hy.dp f2, s1, s2, hq _ _ F H n (.refl pb) (.bl _) hk⟩

/-! ### repr -/
mutual
/-- without lists, objects; dicts are empty -/
def tupD : D → Bool
  | .non => true
  | .bl _ => true
  | .int _ => true
  | .str _ => true
  | .tup ds => tupL ds
  | .dic ks _ => ks.isEmpty
  | .lst _ => false
  | .obj _ _ _ => false
  | .exc _ _ _ => false
  | .pen => false
  | .clo _ _ _ => false
  | .fnA _ => false
  | .scr _ _ _ => false
def tupL : List D → Bool
  | [] => true
  | d :: ds => tupD d && tupL ds
end
structure Shows (d : D) : Prop where
  flat : (flatD d || tupD d) = true
  show_ : (pyD d).showable = true
  dep : (pyD d).depth ≤ 40
  len : (pyD d).shown.length ≤ sizeLine
def shw (d : D) : Str := (pyD d).shown
mutual
theorem pyD_noDict : ∀ d, flatD d = true → (pyD d).hasDict = false
  | .non, _ => by unfold pyD; simp only [PyData.hasDict]
  | .bl _, _ => by unfold pyD; simp only [PyData.hasDict]
  | .int _, _ => by unfold pyD; simp only [PyData.hasDict]
  | .str _, _ => by unfold pyD; simp only [PyData.hasDict]
  | .tup ds, e => by unfold flatD at e; unfold pyD; simp only [PyData.hasDict]; exact pyL_noDict ds e
  | .lst ds, e => by unfold flatD at e; unfold pyD; simp only [PyData.hasDict]; exact pyL_noDict ds e
  | .dic _ _, e => by unfold flatD at e; cases e
  | .obj _ _ _, e => by unfold flatD at e; cases e
  | .exc _ _ _, e => by unfold flatD at e; cases e
  | .clo _ _ _, e => by unfold flatD at e; cases e
  | .fnA _, e => by unfold flatD at e; cases e
  | .scr _ _ _, e => by unfold flatD at e; cases e
  | .pen, e => by unfold flatD at e; cases e
theorem pyL_noDict : ∀ ds, flatL ds = true → PyData.hasDictAll (pyL ds) = false
  | [], _ => by unfold pyL; simp only [PyData.hasDictAll]
  | d :: ds, e => by
    unfold flatL at e
    obtain ⟨e1, e2⟩ := Bool.and_eq_true_iff.mp e
    unfold pyL
    simp only [PyData.hasDictAll, pyD_noDict d e1, pyL_noDict ds e2, Bool.or_self]
end
mutual
theorem Has.readsT {P : Program} {w : World} {h : Heap} {F : Addr → Prop} {H : Hp} (ok : HOk P w H h) : ∀ {v : V} {d : D} {u : Value}, Has F H v d → RelV v u → tupD d = true → ∃ as, Reads h u (pyD d) as ∧ sysModules ∉ as
  | _, _, _, .non, r, _ => by cases r; unfold pyD; exact ⟨[], .none, by simp⟩
  | _, _, _, .bl b, r, _ => by cases r; unfold pyD; exact ⟨[], .bool b, by simp⟩
  | _, _, _, .int i, r, _ => by obtain ⟨t, rfl⟩ := r; unfold pyD; exact ⟨[], .int i t, by simp⟩
  | _, _, _, .str x, r, _ => by obtain ⟨t, rfl⟩ := r; unfold pyD; exact ⟨[], .str x t, by simp⟩
  | _, _, _, .tup (a := a) f hh l, r, e => by
    cases r
    unfold tupD at e
    obtain ⟨_, its, rv, o, ho, hc, n, hd⟩ := (show ObjOk P w H h a (.tup _) from ok a _ hh)
    obtain ⟨as, hr, hn⟩ := HasL.readsT ok l rv e
    unfold pyD
    exact ⟨as, .tuple ho hc hd (by simpa using hr), hn⟩
  | _, _, _, .lst _ _ _, _, e => by unfold tupD at e; cases e
  | _, _, _, .dic (a := a) (kvs := kvs) (ks := ks) (ds := ds) f hh q k l, r, e => by
    cases r
    unfold tupD at e
    have hks : ks = [] := List.isEmpty_iff.mp e
    subst hks
    have hkv : kvs = [] := List.map_eq_nil_iff.mp k
    subst hkv
    cases l
    obtain ⟨_, hs, vs, rel, o, es, ep, ho, hx, hd, _, hp, _⟩ := (show ObjOk P w H h a (.dK []) from ok a _ hh)
    cases rel
    have hes : es.toList = [] := by cases hp' : es.toList with | nil => rfl | cons _ _ => rw [hp'] at hp; cases hp
    unfold pyD
    exact ⟨[a], .dict (as := []) (bs := []) ho hx.1 hd (by rw [hes]; exact .nil) (by rw [hes]; exact .nil), by
      intro z
      have z : sysModules = a := by simpa using z
      rw [← z] at hs
      simp at hs⟩
  | _, _, _, .obj _ _ _ _, _, e => by unfold tupD at e; cases e
  | _, _, _, .pen _ _ _ _ _ _, _, e => by unfold tupD at e; cases e
  | _, _, _, .clo0 _ _ _ _, _, e => by unfold tupD at e; cases e
  | _, _, _, .clo1 _ _ _ _ _ _ _, _, e => by unfold tupD at e; cases e
  | _, _, _, .fnA _, _, e => by unfold tupD at e; cases e
  | _, _, _, .exc _ _ _ _ _ _, _, e => by unfold tupD at e; cases e
  | _, _, _, .exc0 _ _, _, e => by unfold tupD at e; cases e
  | _, _, _, .scr _ _, _, e => by unfold tupD at e; cases e
theorem HasL.readsT {P : Program} {w : World} {h : Heap} {F : Addr → Prop} {H : Hp} (ok : HOk P w H h) : ∀ {vs : List V} {ds : List D} {us : List Value}, HasL F H vs ds → Vals vs us → tupL ds = true → ∃ as, ReadsAll h us (pyL ds) as ∧ sysModules ∉ as
  | _, _, _, .nil, r, _ => by cases r; unfold pyL; exact ⟨[], .nil, by simp⟩
  | _, _, _, .cons hh l, r, e => by
    unfold tupL at e
    obtain ⟨e1, e2⟩ := Bool.and_eq_true_iff.mp e
    cases r with
    | cons r1 r2 =>
      obtain ⟨as, q1, n1⟩ := Has.readsT ok hh r1 e1
      obtain ⟨bs, q2, n2⟩ := HasL.readsT ok l r2 e2
      unfold pyL
      exact ⟨as ++ bs, .cons q1 q2, fun z => (List.mem_append.mp z).elim n1 n2⟩
end
section
variable {X : Cx}
theorem reads_imm {prog : Program} {w : World} {A : Around} {E : Value → Shared → Prop} {s : Shared} {Q : Value → Shared → Prop} {u : Value} {d : PyData} {as : List Addr} (r : Reads s.heap u d as) (hs : d.showable = true) (hn : d.hasDict = true → sysModules ∉ as) (hg : A.guards = some []) (hu : A.units + (d.depth + 1) < cLine)
    (hsz : d.shown.length ≤ sizeLine) (hQ : ∀ h' t tk, (∀ b o, s.heap.get? b = some o → h'.get? b = some o) → Q (.str d.shown t) { s with heap := h', toks := tk }) : wpAny (model prog w) A (call (.builtin "repr") [u]) Q E s := by
  cases r with
  | none => exact PySem.P.repr_of_none (hQ s.heap _ _ fun _ _ e => e)
  | bool b => exact PySem.P.repr_of_bool (hQ s.heap _ _ fun _ _ e => e)
  | int i t => exact PySem.P.repr_of_int (of_decide_eq_true hs) (hQ s.heap _ _ fun _ _ e => e)
  | str x t => exact PySem.P.repr_of_str (hQ s.heap _ _ fun _ _ e => e) hsz
  | list h1 h2 h3 h4 => exact repr_of_reads' (.list h1 h2 h3 h4) hs hn hg hu (fun _ _ e => e) hQ hsz
  | tuple h1 h2 h3 h4 => exact repr_of_reads' (.tuple h1 h2 h3 h4) hs hn hg hu (fun _ _ e => e) hQ hsz
  | dict h1 h2 h3 h4 h5 => exact repr_of_reads' (.dict h1 h2 h3 h4 h5) hs hn hg hu (fun _ _ e => e) hQ hsz

def rRepr : List V → Hp → VK → Prop := fun vs H Q => ∃ (x : V) (d : D) (F : Addr → Prop), vs = [x] ∧ Has F H x d ∧ Shows d ∧ Q (.str (shw d)) H
theorem call_reprD (hg : X.A.guards = some []) (hu : X.A.units + 64 < cLine) : CallR X (.builtin "repr") rRepr := by
  intro pins s σ H xs us Q I r h
  obtain ⟨x, d, F, rfl, hd, sh, q⟩ := h
  obtain ⟨u, rfl, ru⟩ := vals1 r
  have dep := sh.dep
  rcases Bool.or_eq_true_iff.mp sh.flat with hf | ht
  · obtain ⟨as, rd⟩ := Dp.reads I _ x u (hd.dp hf) ru
    exact reads_imm rd sh.show_ (fun e => by rw [pyD_noDict d hf] at e; cases e) hg (by omega) sh.len fun h' t tk k => ⟨.str _, H, I.kept k, ⟨_, rfl⟩, q⟩
  · obtain ⟨as, rd, hn⟩ := hd.readsT I.hok ru ht
    exact reads_imm rd sh.show_ (fun _ => hn) hg (by omega) sh.len fun h' t tk k => ⟨.str _, H, I.kept k, ⟨_, rfl⟩, q⟩
def fRepr : List D → Wm D
  | [d] => do Wm.need (Shows d); pure (.str (shw d))
  | _ => Wm.fail
theorem sem_repr : SemL rRepr fRepr := by
  intro F H n xs as Kd Q pb hx ht hq
  cases hx with
  | nil => exact ht.elim
  | cons h1 h2 =>
    cases h2 with
    | nil => exact ⟨_, _, F, rfl, h1, ht.1, hq _ _ F H n (.refl pb) (.str _) ht.2⟩
    | cons _ _ => exact ht.elim
/-! ### len, list, tuple, all, abs, gcd, int -/
def fLen : List D → Wm D
  | [.lst ds] => pure (.int ds.length)
  | [.tup ds] => pure (.int ds.length)
  | [.str x] => do Wm.need (Fits x.length); pure (.int x.length)
  | _ => Wm.fail
def rLen (K : PySem.W.Frag) : List V → Hp → VK → Prop := fun xs H Q => (∃ p ys, xs = [.ref p] ∧ (SqL K H p ys ∨ SqT K H p ys) ∧ Q (.int ys.length) H) ∨ ∃ z : Str, xs = [.str z] ∧ z.length ≤ sizeLine ∧ Q (.int z.length) H
theorem call_lenA : CallR X (.builtin "len") (rLen X.K) := call_len_seq.or call_len_str
theorem sem_len {K : PySem.W.Frag} : SemL (rLen K) fLen := by
  intro F H n xs as Kd Q pb hx ht hq
  cases hx with
  | nil => exact ht.elim
  | cons h1 h2 =>
    cases h2 with
    | nil =>
      cases h1 <;> first | exact ht.elim | skip
      case str x => exact .inr ⟨x, rfl, ht.1, hq _ _ F H n (.refl pb) (.int _) ht.2⟩
      case tup a vs ds f ha hl => exact .inl ⟨a, vs, rfl, .inr (.of ha), hq _ (.int ds.length) F H n (.refl pb) (by rw [hl.len]; exact .int _) ht⟩
      case lst a vs ds f ha hl => exact .inl ⟨a, vs, rfl, .inl (.of ha), hq _ (.int ds.length) F H n (.refl pb) (by rw [hl.len]; exact .int _) ht⟩
    | cons _ _ => cases h1 <;> exact ht.elim
def fList : List D → Wm D
  | [.lst ds] => pure (.lst ds)
  | [.tup ds] => pure (.lst ds)
  | _ => Wm.fail
theorem sem_list {K : PySem.W.Frag} : SemL (fun xs H Q => ∃ p ys, xs = [.ref p] ∧ (SqL K H p ys ∨ SqT K H p ys) ∧ ∀ l, H l = none → Q (.ref l) (upd H l (.lst ys))) fList := by
  intro F H n xs as Kd Q pb hx ht hq
  have key : ∀ {a : Addr} {vs : List V} {ds : List D}, HasL F H vs ds → Kd (.lst ds) n → ∀ l, H l = none → Q (.ref l) (upd H l (.lst vs)) := fun {a vs ds} hl hk l hp => by
    have g : Grow F H n (plusF F l) (upd H l (.lst vs)) n := .laid pb hp .lst
    exact hq _ _ _ _ n g (.lst plusF_same upd_same (hl.mono g)) hk
  cases hx with
  | nil => exact ht.elim
  | cons h1 h2 =>
    cases h2 with
    | nil =>
      cases h1 <;> first | exact ht.elim | skip
      case tup a vs ds f ha hl => exact ⟨a, vs, rfl, .inr (.of ha), key (a := a) hl ht⟩
      case lst a vs ds f ha hl => exact ⟨a, vs, rfl, .inl (.of ha), key (a := a) hl ht⟩
    | cons _ _ => cases h1 <;> exact ht.elim
def fTuple : List D → Wm D
  | [.lst ds] => pure (.tup ds)
  | [.tup ds] => pure (.tup ds)
  | _ => Wm.fail
theorem sem_tuple {K : PySem.W.Frag} : SemL (fun xs H Q => ∃ p ys, xs = [.ref p] ∧ ((SqL K H p ys ∧ ∀ l, H l = none → Q (.ref l) (upd H l (.tup ys))) ∨ (SqT K H p ys ∧ Q (.ref p) H))) fTuple := by
  intro F H n xs as Kd Q pb hx ht hq
  cases hx with
  | nil => exact ht.elim
  | cons h1 h2 =>
    cases h2 with
    | nil =>
      cases h1 <;> first | exact ht.elim | skip
      case tup a vs ds f ha hl => exact ⟨a, vs, rfl, .inr ⟨.of ha, hq _ _ F H n (.refl pb) (.tup f ha hl) ht⟩⟩
      case lst a vs ds f ha hl =>
        refine ⟨a, vs, rfl, .inl ⟨.of ha, fun l hp => ?_⟩⟩
        have g : Grow F H n (plusF F l) (upd H l (.tup vs)) n := .laid pb hp .tup
        exact hq _ _ _ _ n g (.tup plusF_same upd_same (hl.mono g)) ht
    | cons _ _ => cases h1 <;> exact ht.elim
/-- all of a list of bools -/
def boolOf : D → Option Bool
  | .bl b => some b
  | _ => none
def boolsOf : List D → Option (List Bool)
  | [] => some []
  | d :: ds => (boolOf d).bind fun b => (boolsOf ds).map (b :: ·)
theorem Has.boolOf {F : Addr → Prop} {H : Hp} {v : V} {d : D} {b : Bool} (h : Has F H v d) (e : boolOf d = some b) : v = .bl b := by
  cases h <;> first | (cases e; rfl) | cases e
theorem HasL.bools {F : Addr → Prop} {H : Hp} {vs : List V} {ds : List D} {bs : List Bool} (h : HasL F H vs ds) (e : boolsOf ds = some bs) : vs = bs.map V.bl := by
  induction ds generalizing vs bs with
  | nil =>
    cases h
    cases e
    rfl
  | cons d ds ih =>
    cases h with
    | cons h l =>
      obtain ⟨b, e1, e2⟩ := Option.bind_eq_some_iff.mp e
      obtain ⟨cs, e3, e4⟩ := Option.map_eq_some_iff.mp e2
      subst e4
      rw [h.boolOf e1, ih l e3]
      rfl
def fAll (g : List Bool → Bool) : List D → Wm D
  | [.lst ds] => match boolsOf ds with
    | some bs => pure (.bl (g bs))
    | none => Wm.fail
  | _ => Wm.fail
theorem sem_allG {K : PySem.W.Frag} {g : List Bool → Bool} : SemL (fun vs H Q => ∃ (a : Addr) (bs : List Bool), vs = [V.ref a] ∧ SqL K H a (bs.map V.bl) ∧ Q (.bl (g bs)) H) (fAll g) := by
  intro F H n xs as Kd Q pb hx ht hq
  cases hx with
  | nil => exact ht.elim
  | cons h1 h2 =>
    cases h2 with
    | nil =>
      cases h1 <;> first | exact ht.elim | skip
      case lst a vs ds f ha hl =>
        have ht : (match boolsOf ds with
          | some bs => (pure (.bl (g bs)) : Wm D)
          | none => Wm.fail) Kd XFalse n := ht
        cases e : boolsOf ds with
        | none => rw [e] at ht; exact ht.elim
        | some bs =>
          rw [e] at ht
          have ev := hl.bools e
          subst ev
          exact ⟨a, bs, rfl, .of ha, hq _ _ F H n (.refl pb) (.bl _) ht⟩
    | cons _ _ => cases h1 <;> exact ht.elim
theorem sem_all {K : PySem.W.Frag} : SemL (rAll K) (fAll fun bs => bs.all id) := sem_allG
theorem sem_any {K : PySem.W.Frag} : SemL (rAny K) (fAll fun bs => bs.any id) := sem_allG
def fAbs : List D → Wm D
  | [.int i] => pure (.int (if i < 0 then -i else i))
  | _ => Wm.fail
theorem sem_abs : SemL (fun xs H Q => ∃ i, xs = [V.int i] ∧ Q (.int (if i < 0 then -i else i)) H) fAbs := by
  intro F H n xs as Kd Q pb hx ht hq
  cases hx with
  | nil => exact ht.elim
  | cons h1 h2 =>
    cases h2 with
    | nil =>
      cases h1 <;> first | exact ht.elim | skip
      exact ⟨_, rfl, hq _ _ F H n (.refl pb) (.int _) ht⟩
    | cons _ _ => cases h1 <;> exact ht.elim
def fIntC : List D → Wm D
  | [.int i] => pure (.int i)
  | _ => Wm.fail
theorem sem_intC : SemL (fun xs H Q => (∃ i, xs = [V.int i] ∧ Q (.int i) H) ∨ ∃ k, xs = [V.bl k] ∧ Q (.int (if k then 1 else 0)) H) fIntC := by
  intro F H n xs as Kd Q pb hx ht hq
  cases hx with
  | nil => exact ht.elim
  | cons h1 h2 =>
    cases h2 with
    | nil =>
      cases h1 <;> first | exact ht.elim | skip
      exact .inl ⟨_, rfl, hq _ _ F H n (.refl pb) (.int _) ht⟩
    | cons _ _ => cases h1 <;> exact ht.elim
def fGcd : List D → Wm D
  | [.int i, .int j] => pure (.int (Nat.gcd i.natAbs j.natAbs : Nat))
  | _ => Wm.fail
theorem sem_gcd : SemL rGcd fGcd := by
  intro F H n xs as Kd Q pb hx ht hq
  cases hx with
  | nil => exact ht.elim
  | cons h1 h2 =>
    cases h2 with
    | nil => cases h1 <;> exact ht.elim
    | cons h2 h3 =>
      cases h3 with
      | nil =>
        cases h1 <;> cases h2 <;> first | exact ht.elim | skip
        exact ⟨_, _, rfl, hq _ _ F H n (.refl pb) (.int _) ht⟩
      | cons _ _ => cases h1 <;> cases h2 <;> exact ht.elim
/-! ### subscripts -/
def fIx : D → D → Wm D
  | .lst ds, .int i => match atI ds i with
    | some d => pure d
    | none => Wm.fail
  | .tup ds, .int i => match atI ds i with
    | some d => pure d
    | none => Wm.fail
  | .str z, .int i => match atI z.cps.toList i with
    | some c => do Wm.need (Fits z.length); pure (.str ⟨#[c]⟩)
    | none => Wm.fail
  | _, _ => Wm.fail
theorem HasL.atI {F : Addr → Prop} {H : Hp} {vs : List V} {ds : List D} {i : Int} {d : D} (h : HasL F H vs ds) (e : L2.atI ds i = some d) : ∃ v, L2.atI vs i = some v ∧ Has F H v d := by
  unfold L2.atI at e ⊢
  rw [h.len]
  cases q : ixN ds.length i with
  | none => rw [q] at e; cases e
  | some j =>
    rw [q] at e
    have e : ds[j]? = some d := e
    exact h.get e
theorem sem_ix {K : PySem.W.Frag} : Sem2 (rIx K) fIx := by
  intro F H n x y a b Kd Q pb hx hy ht hq
  cases hx <;> cases hy <;> first | exact ht.elim | skip
  case str.int z i =>
    have ht : (match L2.atI z.cps.toList i with
      | some c => (do Wm.need (Fits z.length); pure (.str ⟨#[c]⟩) : Wm D)
      | none => Wm.fail) Kd XFalse n := ht
    cases e : L2.atI z.cps.toList i with
    | none => rw [e] at ht; exact ht.elim
    | some c => rw [e] at ht; exact .inr (.inr ⟨z, i, c, rfl, rfl, ht.1, e, hq _ _ F H n (.refl pb) (.str _) ht.2⟩)
  case tup.int a vs ds f ha hl i =>
    have ht : (match L2.atI ds i with
      | some d => (pure d : Wm D)
      | none => Wm.fail) Kd XFalse n := ht
    cases e : L2.atI ds i with
    | none => rw [e] at ht; exact ht.elim
    | some d =>
      rw [e] at ht
      obtain ⟨v, e1, hv⟩ := hl.atI e
      exact .inr (.inl ⟨a, vs, i, v, rfl, rfl, .of ha, e1, hq v d F H n (.refl pb) hv ht⟩)
  case lst.int a vs ds f ha hl i =>
    have ht : (match L2.atI ds i with
      | some d => (pure d : Wm D)
      | none => Wm.fail) Kd XFalse n := ht
    cases e : L2.atI ds i with
    | none => rw [e] at ht; exact ht.elim
    | some d =>
      rw [e] at ht
      obtain ⟨v, e1, hv⟩ := hl.atI e
      exact .inl ⟨a, vs, i, v, rfl, rfl, .of ha, e1, hq v d F H n (.refl pb) hv ht⟩
/-! ### isinstance, built-in classes -/
def tyD : D → Value
  | .non => .type "NoneType"
  | .bl _ => .type "bool"
  | .int _ => .type "int"
  | .str _ => .type "str"
  | .tup _ => .type "tuple"
  | .lst _ => .type "list"
  | .dic _ _ => .type "dict"
  | .pen => .type "dict"
  | .obj C _ _ => .ref C
  | .exc C _ _ => .ref C
  | .clo _ _ _ => .type "function"
  | .fnA _ => .type "function"
  | .scr _ _ _ => .type "list"
/-- what the class of an object must be, that isinstance may ask -/
structure IsiOk (K : PySem.W.Frag) (C : Addr) : Prop where
  cl : Cls K C
  ha : PySem.W.findIn K (.ref C) "__class__" = some (some (.builtin "object.__class__"))
  hn : PySem.W.specialIn K (.builtin "object.__class__") "__get__" = some (some (.builtin "getset_descriptor.__get__"))
  ht : PySem.W.takesIn K (.builtin "object.__class__") = some true
  hm : PySem.W.mroIn K C (.type "object") = some true
def tyOk (K : PySem.W.Frag) : D → Prop
  | .obj C _ _ => IsiOk K C
  | .exc _ _ _ => False
  | .clo _ _ _ => False
  | .fnA _ => False
  | .scr _ _ _ => False
  | _ => True
theorem Has.tyX {K : PySem.W.Frag} {F : Addr → Prop} {H : Hp} {v : V} {d : D} (h : Has F H v d) (ok : tyOk K d) : TyX K H v (tyD d) := by
  cases h with
  | non => exact .base .non
  | bl b => exact .base (.bl b)
  | int i => exact .base (.int i)
  | str x => exact .base (.str x)
  | tup f ha _ => exact .base (.tup ha)
  | lst f ha _ => exact .base (.lst ha)
  | dic f ha _ _ _ => exact .base (.dK ha)
  | obj f ha _ _ => exact .base (.ins ha ok.cl ok.ha ok.hn ok.ht ok.hm)
  | pen f ha _ _ _ _ => exact .base (.dK ha)
  | fnA _ => exact ok.elim
  | exc _ _ _ _ _ _ => exact ok.elim
  | exc0 _ _ => exact ok.elim
  | clo0 _ _ _ _ => exact ok.elim
  | scr _ _ => exact ok.elim
  | clo1 _ _ _ _ _ _ _ => exact ok.elim
def fIsi (K : PySem.W.Frag) (us : List Value) (d : D) : Wm D := do
  Wm.need (tyOk K d)
  match PySem.W.kitAny K (tyD d) us with
  | some b => pure (.bl b)
  | none => Wm.fail
def fIsi1 (K : PySem.W.Frag) (u : Value) (d : D) : Wm D := do
  Wm.need (tyOk K d)
  match PySem.W.kitOne K (tyD d) u with
  | some b => pure (.bl b)
  | none => Wm.fail
end
section
variable {ι : Type} {X : ι → Cx} {W : WX}
theorem DE.isi1 {a T : Expr} {c : V} {u : Value} {t : TD D} {p pos : Pos} {K : PySem.W.Frag} (hK : ∀ i, (X i).K = K) (hT : ∀ i, PE (X i) T (tC c)) (hc : ClsV c u) (hg : ∀ i, Gl (X i) "isinstance") (hm : ∀ i, (X i).mg "isinstance" = none) (h : DE X W a t)
    (h1 : ∀ i, starEach [a, T] (X i).env = (false, eval a (X i).env) :: starEach [T] (X i).env := by intro _; rfl) (h2 : ∀ i, starEach [T] (X i).env = (false, eval T (X i).env) :: starEach [] (X i).env := by intro _; rfl)
    (hpl : ∀ i, (backTo pos (starEach [T] (X i).env)).any (·.1) = false := by intro _; rfl) : DE X W (.Call (.Name "isinstance" p) [a, T] [] pos) (fun ρ => do fIsi1 K u (← t ρ)) := by
  obtain ⟨te, pe, r⟩ := h
  refine ⟨tCB (rIsi K) (tCons te (tCons (tC c) tNil)), fun i => by rw [← hK i]; exact pe_callB call_isi (hg i) (hm i) (by decide +kernel) (pa_cons (pe i) (pa_cons (hT i) pa_nil (h2 i)) (h1 i)) (by decide) (by decide) (h1 i) (hpl i), fun F H n σ ρ Kd Kx Q hs ht hq hx => ?_⟩
  refine r F H n σ ρ _ Kx _ hs ht (fun v d F1 H1 n1 g1 hv ht1 => ?_) hx
  obtain ⟨ok, hk⟩ := ht1
  cases e : PySem.W.kitOne K (tyD d) u with
  | none => rw [e] at hk; exact hk.elim
  | some b =>
    rw [e] at hk
    exact ⟨v, c, tyD d, u, b, rfl, hc, hv.tyX ok, e, hq _ _ F1 H1 n1 g1 (.bl b) hk⟩
end
end DL


set_option maxRecDepth 100000
set_option maxHeartbeats 2000000
/-! DL5: the pen; further operators. Own work. -/
namespace DL
open PySem PySem.Spec PyProof.Rows L2

/-! ### the pen's dict -/
section
variable {c : Addr} {p : Pen}
theorem pg_count : valV (penK c p) (.inr "count") = some (.int p.ct) := rfl
theorem pg_digits : valV (penK c p) (.inr "digits") = some (.int p.dg) := rfl
theorem pg_at : valV (penK c p) (.inr "at") = some (.int p.at_) := rfl
theorem pg_cells : valV (penK c p) (.inr "cells") = some (.ref c) := rfl
theorem pg_fold : valV (penK c p) (.inr "fold") = some (.int p.fd) := rfl
theorem pp_count {i : Int} : putK (penK c p) (.inr "count") (.int i) = penK c { p with ct := i } := rfl
theorem pp_digits {i : Int} : putK (penK c p) (.inr "digits") (.int i) = penK c { p with dg := i } := rfl
theorem pp_at {i : Int} : putK (penK c p) (.inr "at") (.int i) = penK c { p with at_ := i } := rfl
theorem pp_fold {i : Int} : putK (penK c p) (.inr "fold") (.int i) = penK c { p with fd := i } := rfl
end
theorem penLen (c : Addr) (p : Pen) : (penK c p).length < sizeLine := by
  rw [sizeLine_eq]
  show 5 < 16777216
  decide
abbrev tGet (k : Str) : TE := tDGet (tVar 0) (tC (.str k))
abbrev tPut (k : Str) (v : TE) : TS := sDPut (tVar 0) (tC (.str k)) v
theorem run_get {σ : L2.St} {H : Hp} {Q : VK} {a : Addr} {kvs : List (Key × V)} {k : Str} {v : V} (h0 : σ[0]? = some (some (.ref a))) (h : H a = some (.dK kvs)) (hv : valV kvs (.inr k) = some v) (q : Q v H) : tGet k σ H Q :=
  ⟨.ref a, h0, a, v, rfl, by rw [← hv]; exact DGet.k (k := .inr k) h, q⟩

abbrev tAddI (a b : TE) : TE := tOp (rI0 fun i j => .int (i + j)) a b
abbrev tSubI (a b : TE) : TE := tOp (rI0 fun i j => .int (i - j)) a b
abbrev tMulI (a b : TE) : TE := tOp (rI CMulW fun i j => .int (i * j)) a b
abbrev tModI (a b : TE) : TE := tOp (rI (fun _ j => j ≠ 0) fun i j => .int (i.fmod j)) a b
abbrev tDivI (a b : TE) : TE := tOp (rI CDivA fun i j => .int (i.fdiv j)) a b
abbrev tPowI (a b : TE) : TE := tOp (rI CPow fun i j => .int (i ^ j.toNat)) a b
abbrev tIntC (a : TE) : TE := tCB (fun xs H Q => (∃ i, xs = [V.int i] ∧ Q (.int i) H) ∨ ∃ k, xs = [V.bl k] ∧ Q (.int (if k then 1 else 0)) H) (tCons a tNil)
/-- what the text of _law_draw does; slots pen, many, cell, digit, blend -/
abbrev tDraw (K : PySem.W.Frag) : TS :=
  tSeq (tPut "count" (tAddI (tGet "count") (tC (.int 1))))
  (tSeq (tIfS (tAnd (tTest (tOp rEq (tGet "digits") (tC (.int 0)))) (tTest (tOp (rI0 fun i j => .bl (decide (i < j))) (tGet "at") (tCB (rLen K) (tCons (tGet "cells") tNil)))))
    (tSeq (tAsg (tOp (rIx K) (tGet "cells") (tGet "at")) (gName 2))
      (tSeq (tPut "at" (tAddI (tGet "at") (tC (.int 1))))
        (tIfS (tTest (tOp (rI0 fun i j => .bl (decide (j ≤ i))) (tVar 2) (tPowI (tC (.int 10)) (tC (.int 18)))))
          (tPut "digits" (tSubI (tVar 2) (tPowI (tC (.int 10)) (tC (.int 18)))))
          (tPut "fold" (tModI (tIntC (tAddI (tMulI (tGet "fold") (tC (.int 26701))) (tVar 2))) (tC (.int 2147483123)))))))
    tNext)
  (tSeq (tIfS (tTest (tOp (rI0 fun i j => .bl (decide (j < i))) (tGet "digits") (tC (.int 0))))
    (tSeq (tAsg (tModI (tIntC (tGet "digits")) (tVar 1)) (gName 3))
      (tSeq (tPut "digits" (tDivI (tGet "digits") (tVar 1))) (tRet (tVar 3))))
    tNext)
  (tSeq (tAsg (tAddI (tAddI (tGet "fold") (tMulI (tGet "count") (tC (.int 5443)))) (tC (.int 151))) (gName 4))
    (tRet (tModI (tDivI (tIntC (tModI (tPowI (tVar 4) (tC (.int 59))) (tC (.int 2305843009213693951)))) (tC (.int 256))) (tVar 1))))))

/-- the promise of _law_draw: any number below many -/
def drawW : List D → Wm D
  | [.pen, .int m] => fun K _ n => 0 < m ∧ m < 4294967296 ∧ n < 1099511627776 ∧ ∀ r : Int, 0 ≤ r → r < m → K (.int r) (n + 1)
  | _ => Wm.fail

theorem Grow.pen {F : Addr → Prop} {H : Hp} {n : Nat} {a c : Addr} {p p' : Pen} (pb : PenB F H n) (h : H a = some (.dK (penK c p))) (ok : p.Ok → p'.Ok) (ct : p'.ct ≤ ((n + 1 : Nat) : Int)) : Grow F H n F (upd H a (.dK (penK c p'))) (n + 1) where
  keep := fun b o e => by
    by_cases hb : b = a
    · subst hb
      rw [h] at e
      cases e
      exact .inr (.inl ⟨c, p, p', rfl, upd_same, ok⟩)
    · exact .inl (by rw [upd_ne hb]; exact e)
  sub := fun _ f => f
  new := fun _ f => .inl f
  pb := ⟨fun b c2 q e => by
    by_cases hb : b = a
    · subst hb
      rw [upd_same] at e
      obtain ⟨_, rfl⟩ := penK_inj (HO.dK.inj (Option.some.inj e))
      exact ct
    · rw [upd_ne hb] at e
      have := pb.ct b c2 q e
      omega, fun b f => by
    by_cases hb : b = a
    · subst hb; exact ⟨_, upd_same⟩
    · rw [upd_ne hb]; exact pb.dom b f, fun P ps e => by
    by_cases hb : P = a
    · subst hb
      rw [upd_same] at e
      cases e
    · rw [upd_ne hb] at e
      refine (pb.tb P ps e).mono (fun _ f => f) fun d _ q => ?_
      rw [upd_ne (fun e => by rw [e, h] at q; cases q)]
      exact q⟩
  le := by omega

theorem pow10 : ((10 : Int) ^ (18 : Int).toNat) = 1000000000000000000 := by decide
theorem cpow10 : CPow 10 18 := ⟨by decide, by decide, by decide⟩
/-- the last rows: by the fold -/
theorem draw_last {K : PySem.W.Frag} {F : Addr → Prop} {H0 H : Hp} {n : Nat} {a c : Addr} {m : Int} {p p0 : Pen} {σ : L2.St} {Q : VK} {D : Ends} (hd : D.rt = Q) (h0 : σ[0]? = some (some (.ref a))) (h1 : σ[1]? = some (some (.int m))) (hl : σ.length = 5)
    (h : H a = some (.dK (penK c p))) (ok : p.Ok) (hn : p.ct ≤ 1099511627777) (hm : 0 < m)
    (q : ∀ r : Int, 0 ≤ r → r < m → Q (.int r) H) :
    (tSeq (tAsg (tAddI (tAddI (tGet "fold") (tMulI (tGet "count") (tC (.int 5443)))) (tC (.int 151))) (gName 4))
    (tRet (tModI (tDivI (tIntC (tModI (tPowI (tVar 4) (tC (.int 59))) (tC (.int 2305843009213693951)))) (tC (.int 256))) (tVar 1)))) D σ H := by
  have f0 := ok.fd0
  have f1 := ok.fd1
  have c0 := ok.ct0
  refine run_get h0 h pg_fold ?_
  refine run_get h0 h pg_count ⟨_, _, rfl, rfl, ?_, ⟨_, _, rfl, rfl, ⟨_, _, rfl, rfl, ?_⟩⟩⟩
  · exact wide_mul (a := 41) (b := 13) (by omega) (by decide) (by decide) (by decide) (by decide)
  -- the store
  have h4 : (σ.set 4 (some (.int (p.fd + p.ct * 5443 + 151))))[4]? = some (some (.int (p.fd + p.ct * 5443 + 151))) := List.getElem?_set_self (by omega)
  have h1' : (σ.set 4 (some (.int (p.fd + p.ct * 5443 + 151))))[1]? = some (some (.int m)) := by rw [List.getElem?_set_ne (by decide)]; exact h1
  refine ⟨_, h4, ⟨_, _, rfl, rfl, ⟨by decide, by decide, by omega⟩, ⟨_, _, rfl, rfl, (show (2305843009213693951 : Int) ≠ 0 by decide), ?_⟩⟩⟩
  refine .inl ⟨_, rfl, ⟨_, _, rfl, rfl, ⟨by decide, by decide⟩, ⟨_, h1', ⟨_, _, rfl, rfl, (by omega : m ≠ 0), ?_⟩⟩⟩⟩
  show D.rt (.int (Int.fmod _ m)) H
  rw [hd]
  rw [Int.fmod_eq_emod_of_nonneg _ (by omega : 0 ≤ m)]
  exact q _ (Int.emod_nonneg _ (by omega)) (Int.emod_lt_of_pos _ hm)
/-- from the digits on -/
theorem draw_digits {K : PySem.W.Frag} {F : Addr → Prop} {H : Hp} {a c : Addr} {m : Int} {p : Pen} {σ : L2.St} {Q : VK} {D : Ends} (hd : D.rt = Q) (h0 : σ[0]? = some (some (.ref a))) (h1 : σ[1]? = some (some (.int m))) (hl : σ.length = 5)
    (h : H a = some (.dK (penK c p))) (ok : p.Ok) (hn : p.ct ≤ 1099511627777) (hm : 0 < m) (hm2 : m < 4294967296)
    (q : ∀ (r : Int) (p' : Pen), 0 ≤ r → r < m → p'.Ok → p'.ct = p.ct → Q (.int r) (upd H a (.dK (penK c p')))) :
    (tSeq (tIfS (tTest (tOp (rI0 fun i j => .bl (decide (j < i))) (tGet "digits") (tC (.int 0))))
    (tSeq (tAsg (tModI (tIntC (tGet "digits")) (tVar 1)) (gName 3))
      (tSeq (tPut "digits" (tDivI (tGet "digits") (tVar 1))) (tRet (tVar 3))))
    tNext)
  (tSeq (tAsg (tAddI (tAddI (tGet "fold") (tMulI (tGet "count") (tC (.int 5443)))) (tC (.int 151))) (gName 4))
    (tRet (tModI (tDivI (tIntC (tModI (tPowI (tVar 4) (tC (.int 59))) (tC (.int 2305843009213693951)))) (tC (.int 256))) (tVar 1))))) D σ H := by
  refine run_get h0 h pg_digits ⟨_, _, rfl, rfl, _, rfl, ?_⟩
  by_cases hdg : 0 < p.dg
  · rw [decide_eq_true hdg]
    refine iteT ?_
    refine run_get h0 h pg_digits (.inl ⟨_, rfl, ⟨_, h1, ⟨_, _, rfl, rfl, (by omega : m ≠ 0), ?_⟩⟩⟩)
    have h0' : (σ.set 3 (some (.int (p.dg.fmod m))))[0]? = some (some (.ref a)) := by rw [List.getElem?_set_ne (by decide)]; exact h0
    have h1' : (σ.set 3 (some (.int (p.dg.fmod m))))[1]? = some (some (.int m)) := by rw [List.getElem?_set_ne (by decide)]; exact h1
    have h3' : (σ.set 3 (some (.int (p.dg.fmod m))))[3]? = some (some (.int (p.dg.fmod m))) := List.getElem?_set_self (by omega)
    have hlg : m.natAbs.log2 < 9000 := Nat.lt_of_lt_of_le (PySem.Flt.log2_lt_of (n := m.natAbs) (k := 32) (by decide) (by omega)) (by decide)
    refine run_get h0' h pg_digits ⟨_, h1', ⟨_, _, rfl, rfl, ⟨by omega, hlg⟩, ?_⟩⟩
    refine ⟨_, h0', a, _, rfl, DPut.k (k := .inr "digits") h (penLen _ _), ?_⟩
    rw [pp_digits]
    refine ⟨_, h3', ?_⟩
    show D.rt _ _
    rw [hd, Int.fmod_eq_emod_of_nonneg _ (by omega : 0 ≤ m)]
    refine q _ _ (Int.emod_nonneg _ (by omega)) (Int.emod_lt_of_pos _ hm) ⟨ok.at0, ?_, ok.ct0, ok.fd0, ok.fd1⟩ rfl
    show 0 ≤ p.dg.fdiv m
    rw [Int.fdiv_eq_ediv_of_nonneg _ (by omega)]
    exact Int.ediv_nonneg (by omega) (by omega)
  · rw [decide_eq_false hdg]
    refine iteF ?_
    refine draw_last (K := K) (F := F) (H0 := H) (n := 0) (p0 := p) hd h0 h1 hl h ok hn hm fun r r0 r1 => ?_
    have e : upd H a (.dK (penK c p)) = H := by
      funext b
      by_cases hb : b = a
      · rw [hb, upd_same, h]
      · rw [upd_ne hb]
    rw [← e]
    exact q r p r0 r1 ok rfl
theorem run_draw {K : PySem.W.Frag} {F : Addr → Prop} {H : Hp} {n : Nat} {v1 v2 : V} {m : Int} {Q : VK} {D : Ends} {N : List Str} (hN : N.length = 5) (hd : D.rt = Q) (pb : PenB F H n) (hv : Has F H v1 .pen) (hv2 : Has F H v2 (.int m)) (hm : 0 < m) (hm2 : m < 4294967296) (hn : n < 1099511627776)
    (q : ∀ (r : Int) (H' : Hp), Grow F H n F H' (n + 1) → 0 ≤ r → r < m → Q (.int r) H') : tDraw K D (L2.start N [v1, v2]) H := by
  cases hv2
  cases hv with
  | @pen a c p ns fa ha ok fc hc hl =>
  have hct := pb.ct a c p ha
  have hlen : ∀ vs : List V, vs.length = 2 → (L2.start N vs).length = 5 := fun vs h => by simp [L2.start, hN, h]
  have h0 : (L2.start N [.ref a, .int m])[0]? = some (some (.ref a)) := rfl
  have h1 : (L2.start N [.ref a, .int m])[1]? = some (some (.int m)) := rfl
  have hl5 := hlen [.ref a, .int m] rfl
  generalize L2.start N [.ref a, .int m] = σ at h0 h1 hl5
  -- count
  refine run_get h0 ha pg_count ⟨_, _, rfl, rfl, ?_⟩
  refine ⟨_, h0, a, _, rfl, DPut.k (k := .inr "count") ha (penLen _ _), ?_⟩
  rw [pp_count]
  have hne : c ≠ a := fun e => by rw [e, ha] at hc; cases hc
  have ok1 : ({ p with ct := p.ct + 1 } : Pen).Ok := ⟨ok.at0, ok.dg0, by have := ok.ct0; show 0 ≤ p.ct + 1; omega, ok.fd0, ok.fd1⟩
  have key : ∀ (σ' : L2.St) (p' : Pen), σ'[0]? = some (some (.ref a)) → σ'[1]? = some (some (.int m)) → σ'.length = 5 → p'.Ok → p'.ct = p.ct + 1 →
      (tSeq (tIfS (tTest (tOp (rI0 fun i j => .bl (decide (j < i))) (tGet "digits") (tC (.int 0))))
        (tSeq (tAsg (tModI (tIntC (tGet "digits")) (tVar 1)) (gName 3))
          (tSeq (tPut "digits" (tDivI (tGet "digits") (tVar 1))) (tRet (tVar 3))))
        tNext)
      (tSeq (tAsg (tAddI (tAddI (tGet "fold") (tMulI (tGet "count") (tC (.int 5443)))) (tC (.int 151))) (gName 4))
        (tRet (tModI (tDivI (tIntC (tModI (tPowI (tVar 4) (tC (.int 59))) (tC (.int 2305843009213693951)))) (tC (.int 256))) (tVar 1))))) D σ' (upd H a (.dK (penK c p'))) := fun σ' p' e0 e1 el okp ec => by
    refine draw_digits (K := K) (F := F) hd e0 e1 el upd_same okp (by rw [ec]; omega) hm hm2 fun r p2 r0 r1 ok2 e2 => ?_
    rw [upd_upd]
    exact q r _ (.pen pb ha (fun _ => ok2) (by rw [e2, ec]; omega)) r0 r1
  -- the cell
  have hb : (upd H a (.dK (penK c { p with ct := p.ct + 1 }))) a = some (.dK (penK c { p with ct := p.ct + 1 })) := upd_same
  have hcb : (upd H a (.dK (penK c { p with ct := p.ct + 1 }))) c = some (.lst (ns.map V.int)) := by rw [upd_ne hne]; exact hc
  refine run_get h0 hb pg_digits ⟨rfl, _, rfl, ?_⟩
  by_cases hz : p.dg = 0
  · have e : decide (V.int p.dg = V.int 0) = true := by rw [hz]; rfl
    show if decide (V.int p.dg = V.int 0) = true then _ else _
    rw [e]
    refine iteT ?_
    refine run_get h0 hb pg_at (run_get h0 hb pg_cells (.inl ⟨c, ns.map V.int, rfl, .inl (.of hcb), ⟨_, _, rfl, rfl, _, rfl, ?_⟩⟩))
    by_cases hat : p.at_ < ((ns.map V.int).length : Int)
    · rw [decide_eq_true hat]
      refine iteT ?_
      have a0 := ok.at0
      have hjl : p.at_.toNat < ns.length := by simp at hat; omega
      have hix : L2.atI (ns.map V.int) p.at_ = some (.int ns[p.at_.toNat]) := by
        have e1 : L2.ixN (ns.map V.int).length p.at_ = some p.at_.toNat := by
          unfold L2.ixN
          simp only [List.length_map]
          rw [if_pos a0, if_pos (by simpa using hat)]
        unfold L2.atI
        rw [e1]
        simp [hjl]
      refine run_get h0 hb pg_cells (run_get h0 hb pg_at (.inl ⟨c, ns.map V.int, _, _, rfl, rfl, .of hcb, hix, ?_⟩))
      generalize ns[p.at_.toNat] = cell
      have h0' : (σ.set 2 (some (.int cell)))[0]? = some (some (.ref a)) := by rw [List.getElem?_set_ne (by decide)]; exact h0
      have h1' : (σ.set 2 (some (.int cell)))[1]? = some (some (.int m)) := by rw [List.getElem?_set_ne (by decide)]; exact h1
      have h2' : (σ.set 2 (some (.int cell)))[2]? = some (some (.int cell)) := List.getElem?_set_self (by omega)
      have hl' : (σ.set 2 (some (.int cell))).length = 5 := by simp [hl5]
      refine run_get h0' hb pg_at ⟨_, _, rfl, rfl, ?_⟩
      refine ⟨_, h0', a, _, rfl, DPut.k (k := .inr "at") hb (penLen _ _), ?_⟩
      rw [pp_at, upd_upd]
      refine ⟨_, h2', ⟨_, _, rfl, rfl, cpow10, ⟨_, _, rfl, rfl, _, rfl, ?_⟩⟩⟩
      rw [pow10]
      have hb2 : (upd H a (.dK (penK c { p with at_ := p.at_ + 1, ct := p.ct + 1 }))) a = some (.dK (penK c { p with at_ := p.at_ + 1, ct := p.ct + 1 })) := upd_same
      by_cases hbig : (1000000000000000000 : Int) ≤ cell
      · rw [decide_eq_true hbig]
        refine iteT ?_
        refine ⟨_, h2', ⟨_, _, rfl, rfl, cpow10, ⟨_, _, rfl, rfl, ?_⟩⟩⟩
        refine ⟨_, h0', a, _, rfl, DPut.k (k := .inr "digits") hb2 (penLen _ _), ?_⟩
        rw [pp_digits, upd_upd, pow10]
        exact key _ _ h0' h1' hl' ⟨by show 0 ≤ p.at_ + 1; omega, by show 0 ≤ cell - 1000000000000000000; omega, ok1.ct0, ok.fd0, ok.fd1⟩ rfl
      · rw [decide_eq_false hbig]
        refine iteF ?_
        refine run_get h0' hb2 pg_fold ⟨_, _, rfl, rfl, ?_, ⟨_, h2', ⟨_, _, rfl, rfl, .inl ⟨_, rfl, ⟨_, _, rfl, rfl, (show (2147483123 : Int) ≠ 0 by decide), ?_⟩⟩⟩⟩⟩
        · have f0 := ok.fd0
          have f1 := ok.fd1
          exact wide_mul (a := 32) (b := 15) (by show p.fd.natAbs < _; omega) (by decide) (by decide) (by decide) (by decide)
        refine ⟨_, h0', a, _, rfl, DPut.k (k := .inr "fold") hb2 (penLen _ _), ?_⟩
        rw [pp_fold, upd_upd]
        refine key _ _ h0' h1' hl' ⟨by show 0 ≤ p.at_ + 1; omega, ok.dg0, ok1.ct0, ?_, ?_⟩ rfl
        · show 0 ≤ Int.fmod _ _
          rw [Int.fmod_eq_emod_of_nonneg _ (by decide)]
          exact Int.emod_nonneg _ (by decide)
        · show Int.fmod _ _ < _
          rw [Int.fmod_eq_emod_of_nonneg _ (by decide)]
          exact Int.emod_lt_of_pos _ (by decide)
    · rw [decide_eq_false hat]
      refine iteF ?_
      exact key σ _ h0 h1 hl5 ok1 rfl
  · have e : decide (V.int p.dg = V.int 0) = false := decide_eq_false fun z => hz (V.int.inj z)
    show if decide (V.int p.dg = V.int 0) = true then _ else _
    rw [e]
    refine iteF ?_
    exact iteF (key σ _ h0 h1 hl5 ok1 rfl)

/-! ### _law_pen -/
/-- list(script) and the dict -/
def penF (K : PySem.W.Frag) : D → D → Wm D
  | .scr K' ns _, .int f => do Wm.need (K' = K ∧ ns.length ≤ 63 ∧ 0 ≤ f ∧ f < 2147483123); pure .pen
  | _, _ => Wm.fail
def penD (K : PySem.W.Frag) (i j : Nat) : TD D := fun ρ => do let s ← getD i ρ; let f ← getD j ρ; penF K s f
theorem getD_run {i : Nat} {ρ : Env'} {K : D → Nat → Prop} {X : XD → Nat → Prop} {n : Nat} (h : getD i ρ K X n) : ∃ x, ρ[i]? = some (some (.d x)) ∧ K x n := by
  unfold getD at h
  match e : ρ[i]? with
  | some (some (.d x)) => rw [e] at h; exact ⟨x, rfl, h⟩
  | some (some (.m _)) => rw [e] at h; exact h.elim
  | some none => rw [e] at h; exact h.elim
  | none => rw [e] at h; exact h.elim
abbrev tPenDict (K : PySem.W.Frag) (i j : Nat) : TE :=
  tDisp [(tC (.str "cells"), tCB (fun xs H Q => ∃ p ys, xs = [.ref p] ∧ (SqL K H p ys ∨ SqT K H p ys) ∧ ∀ l, H l = none → Q (.ref l) (upd H l (.lst ys))) (tCons (tVar i) tNil)), (tC (.str "at"), tC (.int 0)), (tC (.str "digits"), tC (.int 0)), (tC (.str "count"), tC (.int 0)), (tC (.str "fold"), tVar j)]
theorem run_pen {K : PySem.W.Frag} {W : WX} {i j : Nat} : RunE W (tPenDict K i j) (penD K i j) := by
  intro F H n σ ρ Kd Kx Q hs ht hq hx
  obtain ⟨x, e1, ht1⟩ := getD_run (show getD i ρ (fun s n' => (do let f ← getD j ρ; penF K s f : Wm D) Kd Kx n') Kx n from ht)
  obtain ⟨y, e2, ht2⟩ := getD_run (show getD j ρ (fun f n' => penF K x f Kd Kx n') Kx n from ht1)
  have ht3 : penF K x y Kd Kx n := ht2
  clear ht ht1 ht2
  obtain ⟨v1, s1, hv1⟩ := hs.at_ _ _ e1
  obtain ⟨v2, s2, hv2⟩ := hs.at_ _ _ e2
  have hv1 : Has F H v1 x := hv1
  have hv2 : Has F H v2 y := hv2
  cases hv1 <;> try exact ht3.elim
  rename_i a K' ns tabs hsc _
  cases hv2 <;> try exact ht3.elim
  rename_i f
  obtain ⟨⟨hK, hl, f0, f1⟩, hk⟩ := ht3
  subst hK
  intro p hp
  have hsq : SqL K' (upd H p (.dK [])) a (ns.map V.int) := hsc.elim (fun ⟨o, fa, e⟩ => .inl (.inr ⟨o, by rw [upd_ne (ne_of_none e hp)]; exact e⟩)) (fun k => k _)
  refine ⟨_, s1, a, _, rfl, .inl hsq, fun l hl0 => ?_⟩
  have hlp : l ≠ p := fun e => by rw [e, upd_same] at hl0; cases hl0
  have hl1 : H l = none := by rw [upd_ne hlp] at hl0; exact hl0
  refine ⟨_, s2, ?_, [(.inr "cells", .ref l), (.inr "at", .int 0), (.inr "digits", .int 0), (.inr "count", .int 0), (.inr "fold", .int f)], rfl, by show 5 ≤ 15; decide, ?_⟩
  · rw [upd_ne (Ne.symm hlp), upd_same]
  have em : mergeK [] [((.inr "cells" : Key), V.ref l), (.inr "at", .int 0), (.inr "digits", .int 0), (.inr "count", .int 0), (.inr "fold", .int f)] = penK l ⟨0, 0, 0, f⟩ := rfl
  rw [em]
  have ne : ∀ {b : Addr} {o : HO}, H b = some o → b ≠ p ∧ b ≠ l := fun e => ⟨ne_of_none e hp, ne_of_none e hl1⟩
  have at_ : ∀ b, b ≠ p → b ≠ l → upd (upd (upd H p (.dK [])) l (.lst (ns.map V.int))) p (.dK (penK l ⟨0, 0, 0, f⟩)) b = H b := fun b h1 h2 => by rw [upd_ne h1, upd_ne h2, upd_ne h1]
  refine hq _ .pen (fun b => F b ∨ b = p ∨ b = l) _ n ⟨fun b o e => .inl (by rw [at_ b (ne e).1 (ne e).2]; exact e), fun b fb => .inl fb, fun b fb => ?_, ⟨fun b c q e => ?_, fun b fb => ?_, fun P ps e => ?_⟩, Nat.le_refl _⟩ ?_ hk
  · rcases fb with fb | rfl | rfl
    · exact .inl fb
    · exact .inr hp
    · exact .inr hl1
  · by_cases hb : b = p
    · subst hb
      rw [upd_same] at e
      obtain ⟨_, rfl⟩ := penK_inj (HO.dK.inj (Option.some.inj e))
      exact Int.natCast_nonneg n
    · by_cases hb2 : b = l
      · subst hb2
        rw [upd_ne hb, upd_same] at e
        cases e
      · rw [at_ b hb hb2] at e
        exact hs.pb.ct b c q e
  · by_cases hb : b = p
    · subst hb; exact ⟨_, upd_same⟩
    · by_cases hb2 : b = l
      · subst hb2; exact ⟨_, by rw [upd_ne hb, upd_same]⟩
      · rw [at_ b hb hb2]
        exact hs.pb.dom b (fb.resolve_right fun z => z.elim hb hb2)
  · by_cases hb : P = p
    · subst hb; rw [upd_same] at e; cases e
    · by_cases hb2 : P = l
      · subst hb2; rw [upd_ne hb, upd_same] at e; cases e
      · rw [at_ P hb hb2] at e
        exact (hs.pb.tb P ps e).mono (fun _ => .inl) fun d _ q => by rw [at_ d (ne q).1 (ne q).2]; exact q
  · refine .pen (c := l) (p := ⟨0, 0, 0, f⟩) (ns := ns) (.inr (.inl rfl)) upd_same ⟨Int.le_refl 0, Int.le_refl 0, Int.le_refl 0, f0, f1⟩ (.inr (.inr rfl)) ?_ hl
    rw [upd_ne hlp, upd_same]
theorem DE.pen {ι : Type} {X : ι → Cx} {W : WX} {K : PySem.W.Frag} {i j : Nat} {e : Expr} (h : ∀ k, PE (X k) e (tPenDict K i j)) : DE X W e (penD K i j) := ⟨_, h, run_pen⟩

/-- what comes of one's text, in a word -/
theorem draw_ok {P : Program} {w : World} {K : PySem.W.Frag} {mg : Str → Option Value} {base : Heap} {x qual : Str} {st : Stmt} {f : Addr} {fd : FuncData} {N ps : List Str} {k : Nat} (F : Fun K x qual st f fd) (S : FnScope N ps (defScope st)) (hN : N.length = 5) (hps : ps.length = 2)
    (hbody : ∀ (cdv : Value) (A : Around) (outer : List Env) (s : Shared) (H : Hp) (E : XK), A.guards = some [] → Room k (A.deeper (envOfC qual (defScope st) s.heap.objs.size f cdv)) → PSs (cxOf (L2.CX P w) P w K mg base N qual (defScope st) f cdv A outer s H E) (defBody st) (tDraw K)) :
    FnG P w K mg base (k + 1) f fd ps (spD 2 drawW) := by
  refine FnG.of F S (fun vs H Q E h => by rw [hps]; exact h.1) fun cdv _ A outer s H vs Q E hg hr h => ?_
  obtain ⟨hl, F0, n, ds, Kd, Kx, pb, hv, hw', hq, hx⟩ := h
  refine ⟨_, hbody cdv A outer s H E hg hr, ?_⟩
  cases hv with
  | nil => exact hw'.elim
  | cons h1 hv =>
  cases hv with
  | nil => cases h1 <;> exact hw'.elim
  | cons h2 hv =>
  cases hv with
  | cons _ _ => cases h1 <;> cases h2 <;> exact hw'.elim
  | nil =>
  cases h1 <;> try exact hw'.elim
  cases h2 <;> try exact hw'.elim
  obtain ⟨m0, m1, n0, hk⟩ := hw'
  rename_i h1 ok1 fc1 hc1 hl1 m
  exact run_draw hN rfl pb (.pen (by assumption) (by assumption) (by assumption) (by assumption) (by assumption) (by assumption)) (.int _) m0 m1 n0 fun r H' g r0 r1 => hq _ _ F0 H' _ g (.int r) (hk r r0 r1)
end DL


set_option maxRecDepth 100000
set_option maxHeartbeats 2000000
/-! DL6: try with several clauses that bear a name; raise; own errors. Own work over HandS. -/
namespace DL
open PySem PySem.Spec PyProof.Rows L2

/-- behind a suite with a name: the name is gone -/
abbrev goneD (i : Nat) (D : Ends) : Ends := { nx := fun σ' H' => D.nx (σ'.set i none) H', rt := D.rt, bk := fun σ' H' => D.bk (σ'.set i none) H', ct := fun σ' H' => D.ct (σ'.set i none) H' }
/-- what the clauses wish of an exception of the body, one after the other; slot i is the name's -/
def wNamed (K : PySem.W.Frag) (i : Nat) (Wout : WX) (D : Ends) : List (Value × (Addr → Value → Option Addr → TS)) → WX
  | [] => Wout
  | (c, ts) :: r => fun cls d σ H => ∃ b, PySem.W.exmOne K cls c = some b ∧ (b = true → ∀ a, H a = none → ts a cls d (goneD i D) (σ.set i (some (.ref a))) H) ∧ (b = false → wNamed K i Wout D r cls d σ H)
inductive HdsN (X : Cx) (n : Str) : List ExceptHandler → List (Value × (Addr → Value → Option Addr → TS)) → Prop
  | nil : HdsN X n [] []
  | cons {x : Str} {c : Value} {ts : Addr → Value → Option Addr → TS} {b₀ : Stmt} {suite : List Stmt} {np pos' : Pos} {hds : List ExceptHandler} {l : List (Value × (Addr → Value → Option Addr → TS))} (hc : Names X x c)
      (hsu : ∀ (a : Addr) (oe : Obj) (cls : Value) (d : Option Addr) (pn : List (Addr × Obj)), Zc cls d oe → (∃ vs, oe.data = .fields vs) → PSs (X.suite a ((a, oe) :: pn)) (b₀ :: suite) (ts a cls d)) (r : HdsN X n hds l) :
      HdsN X n (.ExceptHandler (some (.Name x np)) (some n) (b₀ :: suite) pos' :: hds) ((c, ts) :: l)
section
variable {X : Cx} {n : Str} {i : Nat} {body : List Stmt} {h₀ : ExceptHandler} {hds : List ExceptHandler} {l : List (Value × (Addr → Value → Option Addr → TS))} {pos : Pos} {tb : WX → TS} {Wout : WX}
theorem ps_try_named (hs : X.stack = X.env :: X.outer) (hf : X.env.frame = some X.env.locals) (hN : X.N.Nodup) (hi : X.N[i]? = some n) (hln : X.env.kindOf n = some .local) (tk : Takes X Wout)
    (hb : ∀ (W : WX) (pn : List (Addr × Obj)) (xe : Value → Shared → Prop), Takes (X.tr pn xe) W → PSs (X.tr pn xe) body (tb W))
    (hh : HdsN X n (h₀ :: hds) l) : PS X (.Try body (h₀ :: hds) [] [] pos) (fun D σ H => tb (wNamed X.K i Wout D l) D σ H) := by
  refine ⟨fun pins s σ H D I h => ?_⟩
  have ok := I.ok
  have hfr : X.A.frames = some (X.env :: X.outer) := by rw [ok.frames, hs]
  have hloc : Loc X.env.scope n := .inl hln
  refine wpAny_Try_except ?_
  refine wpAny_mono ((hb (wNamed X.K i Wout D l) (X.pn ++ pins) _ (fun u s' xx => ?_)).run [] s σ H D (I.toTry _) h) (fun f s1 hsp => ?_) (fun e s1 he => he)
  · obtain ⟨a, B, sI, pins', σ', H', cls, d, rfl, J', nb, up, sky, na, os, ag, w⟩ := xx
    have J : Inv X pins σ' H' sI := J'.ofTry ok
    have sky' : Sky B (X.env :: X.outer) a (Zc cls d) X.env.locals s'.heap := by rw [← hs]; exact sky
    refine Sky.land Zc.steady hfr hf sky' fun h3 fl3 up3 => ?_
    have J3 : Inv X pins σ' H' { s' with heap := h3 } := J.landed nb fl3.1 (up.trans up3) os ag
    obtain ⟨oe3, vs3, he3, hz3, hd3⟩ := fl3.there
    have off : a ∉ frs (X.env :: X.outer) := fun hm => by
      obtain ⟨_, o', e', hnf⟩ := fl3.2.2.1.mem hm
      rw [he3] at e'
      cases e'
      exact hnf _ hd3
    have nL : a ≠ X.env.locals := fun z => off (List.mem_filterMap.mpr ⟨X.env, List.mem_cons_self, by rw [hf, z]⟩)
    have nF : a ∉ X.fs := fun hm => by
      obtain ⟨e, he, q⟩ := List.mem_filterMap.mp hm
      exact off (List.mem_filterMap.mpr ⟨e, List.mem_cons_of_mem _ he, q⟩)
    have S3 := J3.suite he3 hd3 na nL nF
    suffices go : ∀ (hds' : List ExceptHandler) (l' : List (Value × (Addr → Value → Option Addr → TS))), HdsN X n hds' l' → wNamed X.K i Wout D l' cls d σ' H' →
        wpAny (model X.prog X.w) X.A (handleBy (.ref a) X.env hds') (SP X pins D) X.xe { s' with heap := h3 } from go _ _ hh w
    intro hds' l' hk
    induction hk with
    | nil =>
      intro w
      refine wpAny_handleBy_nil ?_
      obtain ⟨k1, k2, k3, oe, vs, T, oT, ts', he, hz, hd, h1, hr⟩ := id fl3
      unfold PySem.passOn
      refine wpAny_bind (wpAny_field he hd h1 ?_)
      rw [if_neg (show ¬ ((Value.ref T == Value.none) = true) from by simp)]
      have out : wpAny (model X.prog X.w) X.A (setFlight (.ref a) X.env.frame) (fun _ s4 => wpAny (model X.prog X.w) X.A (throw (.ref a) : Sem Flow) (SP X pins D) X.xe s4) X.xe { s' with heap := h3 } := by
        rw [hf]
        exact HandSPX.setFlight_upZ fl3 fun h4 hh4 up4 => wpAny_throw (tk _ _ ⟨a, B, sI, pins, σ', H', cls, d, rfl, J, nb, (up.trans up3).trans up4, .inr (.inr (by rw [hs]; exact hh4)), na, os, ag, w⟩)
      first
        | exact wpAny_bind (wpAny_pure (wpAny_bind out))
        | exact wpAny_bind out
    | @cons x c ts b₀ suite np pos' hds2 l2 hc hsu r ih =>
      intro w
      obtain ⟨b, hb1, hyes, hno⟩ := w
      refine wpAny_handleBy_cons (codeAny_handlers_test ?_) (by intro q; cases q)
      have LM := PySem.W.exm_one (M := model X.prog X.w) (J3.kIn) (fun A Q E s k q => wpAny_typeOf_ref (k _ _ he3) (by rw [hz3.1]; exact q)) hb1
      have test : ∀ {Q : Value → Shared → Prop} {E : Value → Shared → Prop}, Q c { s' with heap := h3 } → wpAny (model X.prog X.w) (X.A.mark (some (.ref a))) (eval (.Name x np) X.env) Q E { s' with heap := h3 } := fun {Q E} q => by
        obtain ⟨hg, hdbg, hm | ⟨hm, hv, hnn⟩⟩ := hc
        · exact ld_glob (X := X.suite a ((a, oe3) :: (X.pn ++ pins))) S3 hg hm q hdbg
        · exact ld_blt (X := X.suite a ((a, oe3) :: (X.pn ++ pins))) S3 hg hm hv q hnn hdbg
      refine test (LM.here ?_)
      cases b with
      | false => exact ih (hno rfl)
      | true =>
        refine codeAny_handlers_suite_as ?_
        refine HandSPX.lands_againZ fl3 fun h4 fl4 up4 => ?_
        have J4 : Inv X pins σ' H' { s' with heap := h4 } := J.landed nb fl4.1 ((up.trans up3).trans up4) os ag
        obtain ⟨oe4, vs4, he4, hz4, hd4⟩ := fl4.there
        refine store_ok (X := X.suite a ((a, oe4) :: (X.pn ++ pins))) (v := .ref a) (J4.suite he4 hd4 na nL nF) hN hi hloc rfl (fun s5 S5 => ?_) (.inr hln)
        refine wpAny_mono ((hsu a oe4 cls d (X.pn ++ pins) hz4 ⟨_, hd4⟩).run [] s5 _ H' (goneD i D) S5 (hyes rfl a na)) (fun f s6 hsp => ?_) (fun _ _ z => False.elim z)
        cases f with
        | ret u =>
          obtain ⟨v6, σ6, H6, S6, r6, q6⟩ := hsp
          exact gone_ok (S6.unsuite ok) hN hi hln fun s7 J7 => ⟨_, _, _, J7, r6, q6⟩
        | next =>
          obtain ⟨σ6, H6, S6, q6⟩ := hsp
          exact gone_ok (S6.unsuite ok) hN hi hln fun s7 J7 => ⟨_, _, J7, q6⟩
        | brk =>
          obtain ⟨σ6, H6, S6, q6⟩ := hsp
          exact gone_ok (S6.unsuite ok) hN hi hln fun s7 J7 => ⟨_, _, J7, q6⟩
        | cont =>
          obtain ⟨σ6, H6, S6, q6⟩ := hsp
          exact gone_ok (S6.unsuite ok) hN hi hln fun s7 J7 => ⟨_, _, J7, q6⟩
  · cases f with
    | ret u =>
      obtain ⟨v, σ', H', J', r, q⟩ := hsp
      exact ⟨v, σ', H', J'.ofTry ok, r, q⟩
    | next =>
      obtain ⟨σ', H', J', q⟩ := hsp
      exact wpAny_execs_nil ⟨σ', H', J'.ofTry ok, q⟩
    | brk =>
      obtain ⟨σ', H', J', q⟩ := hsp
      exact ⟨σ', H', J'.ofTry ok, q⟩
    | cont =>
      obtain ⟨σ', H', J', q⟩ := hsp
      exact ⟨σ', H', J'.ofTry ok, q⟩
end

/-! ### suites: return a tuple of texts and fields of what was caught -/
/-- an item: a text, or a field -/
abbrev FIt := Str × Bool
inductive FItems (X : Cx) (i : Nat) : List Expr → List FIt → Prop
  | nil : FItems X i [] []
  | str {x : Str} {j : Nat} {pos : Pos} {es : List Expr} {l : List FIt} (r : FItems X i es l) (hs : starEach (.Constant (.str x) j pos :: es) X.env = (false, eval (.Constant (.str x) j pos) X.env) :: starEach es X.env := by rfl) : FItems X i (.Constant (.str x) j pos :: es) ((x, false) :: l)
  | fld {x n : Str} {p pos : Pos} {es : List Expr} {l : List FIt} (hN : X.N[i]? = some n) (hv : Vis X.env.scope n) (hd : (n == ("__debug__" : Str)) = false) (hcd : (n == ("__classdict__" : Str)) = false) (r : FItems X i es l)
      (hs : starEach (.Attribute (.Name n p) x pos :: es) X.env = (false, eval (.Attribute (.Name n p) x pos) X.env) :: starEach es X.env := by rfl)
      (hb : attributeBase (.Name n p) x X.env (eval (.Name n p) X.env) = eval (.Name n p) X.env := by rfl) : FItems X i (.Attribute (.Name n p) x pos :: es) ((x, true) :: l)
def tItems (a : Addr) (cls : Value) (d : Option Addr) (C : Addr) (i : Nat) : List FIt → TA
  | [] => tNil
  | (x, false) :: l => tCons (tC (.str x)) (tItems a cls d C i l)
  | (x, true) :: l => tCons (tXf a cls d C x (tVar i)) (tItems a cls d C i l)
theorem pa_items {X : Cx} {i : Nat} {es : List Expr} {l : List FIt} (h : FItems X i es l) {a C : Addr} {oe : Obj} {cls : Value} {d : Option Addr} {pn : List (Addr × Obj)} (T : XfC X.K C) (hz : Zc cls d oe) (hf : ∃ vs, oe.data = .fields vs)
    (hno : ∀ x, (x, true) ∈ l → PySem.W.findIn X.K (.ref C) x = some none) : PA (X.suite a ((a, oe) :: pn)) es (tItems a cls d C i l) := by
  induction h with
  | nil => exact pa_nil
  | str r hs ih => exact pa_cons pe_str (ih fun x hx => hno x (List.mem_cons_of_mem _ hx)) hs
  | fld hN hv hd hcd r hs hb ih => exact pa_cons (pe_xf T (hno _ List.mem_cons_self) hz hf (pe_var hN hv hd hcd) hb) (ih fun x hx => hno x (List.mem_cons_of_mem _ hx)) hs
/-- the data of a field -/
def fieldD : List Str → List D → Str → Option D
  | n :: ns, d :: ds, x => if x = n then some d else fieldD ns ds x
  | _, _, _ => none
def itemsD (ns : List Str) (ds : List D) : List FIt → Option (List D)
  | [] => some []
  | (x, false) :: l => (itemsD ns ds l).map (.str x :: ·)
  | (x, true) :: l => (fieldD ns ds x).bind fun d => (itemsD ns ds l).map (d :: ·)
theorem field_has {F : Addr → Prop} {H : Hp} : ∀ {fs : List (Str × V)} {ds : List D} {x : Str} {d : D}, HasL F H (fs.map (·.2)) ds → fieldD (fs.map (·.1)) ds x = some d → ∃ v, fs.lookup x = some v ∧ Has F H v d
  | [], ds, x, d, h, e => by cases ds <;> cases e
  | (n, v) :: fs, [], x, d, h, e => by cases e
  | (n, v) :: fs, d0 :: ds, x, d, h, e => by
    cases h with
    | cons h1 h2 =>
    have e : (if x = n then some d0 else fieldD (fs.map (·.1)) ds x) = some d := e
    rw [lookup_put]
    by_cases hx : x = n
    · rw [if_pos hx] at e ⊢
      cases e
      exact ⟨v, rfl, h1⟩
    · rw [if_neg hx] at e ⊢
      exact field_has h2 e
theorem run_items {F : Addr → Prop} {H : Hp} {a C dd : Addr} {cls : Value} {i : Nat} {σ : L2.St} {fs : List (Str × V)} {ds : List D} (hc : cls = .ref C) (hd : H dd = some (.xd fs)) (hi : σ[i]? = some (some (.ref a))) (hl : HasL F H (fs.map (·.2)) ds) :
    ∀ (l : List FIt) (ys : List D) (Q : List V → Hp → Prop), itemsD (fs.map (·.1)) ds l = some ys → (∀ vs, HasL F H vs ys → Q vs H) → tItems a cls (some dd) C i l σ H Q
  | [], ys, Q, e, q => by cases e; exact q [] .nil
  | (x, false) :: l, ys, Q, e, q => by
    obtain ⟨zs, e1, e2⟩ := Option.map_eq_some_iff.mp e
    subst e2
    exact run_items hc hd hi hl l zs _ e1 fun vs hv => q (.str x :: vs) (.cons (.str x) hv)
  | (x, true) :: l, ys, Q, e, q => by
    obtain ⟨d, e0, e⟩ := Option.bind_eq_some_iff.mp e
    obtain ⟨zs, e1, e2⟩ := Option.map_eq_some_iff.mp e
    subst e2
    obtain ⟨v, lk, hv⟩ := field_has hl e0
    exact ⟨.ref a, hi, rfl, hc, dd, fs, v, rfl, hd, lk, run_items hc hd hi hl l zs _ e1 fun vs hvs => q (v :: vs) (.cons hv hvs)⟩

/-! ### the clauses by data -/
/-- a clause: its class, what it returns -/
abbrev Clause := Addr × List FIt
abbrev clauseT (i : Nat) (c : Clause) : Value × (Addr → Value → Option Addr → TS) := (.ref c.1, fun a cls d => tRet (tTup (tItems a cls d c.1 i c.2)))
def dClauses (K : PySem.W.Frag) (E : DEnds) (x : XD) (ρ : Env') (n : Nat) : List Clause → Prop
  | [] => E.ex x ρ n
  | (C, l) :: r => ∃ b, PySem.W.exmOne K (.ref x.C) (.ref C) = some b ∧ (b = true → x.C = C ∧ ∃ ys, itemsD x.ns x.ds l = some ys ∧ Fits ys.length ∧ E.rt (.tup ys) n) ∧ (b = false → dClauses K E x ρ n r)
def dTry (K : PySem.W.Frag) (i : Nat) (t : TDS) (cl : List Clause) : TDS := fun E ρ n => t { E with ex := fun x ρ' n' => i < ρ'.length ∧ dClauses K E x ρ' n' cl } ρ n
theorem clauses_ok {K : PySem.W.Frag} {i : Nat} {W : WX} {B : Base} {F₁ : Addr → Prop} {H₁ : Hp} {n₁ : Nat} {E : DEnds} {Z : Ends} (eo : EndsOk W B F₁ H₁ n₁ E Z) {cls : Value} {od : Option Addr} {x : XD} {σ : L2.St} {ρ : Env'} {F : Addr → Prop} {H : Hp} {n : Nat}
    (s : Stt B F H n σ ρ) (l : Later F₁ H₁ n₁ F H n) (hx : HasX F H cls od x) (hi : i < σ.length) : ∀ cl : List Clause, dClauses K E x ρ n cl → wNamed K i W Z (cl.map (clauseT i)) cls od σ H
  | [], h => eo.ex cls od x σ ρ F H n s l hx h
  | (C, its) :: r, h => by
    obtain ⟨b, hb, hyes, hno⟩ := h
    obtain ⟨rfl, dd, fs, rfl, hd, hns, hl⟩ := id hx
    refine ⟨b, hb, fun e a na => ?_, fun e => clauses_ok eo s l hx hi r (hno e)⟩
    obtain ⟨hC, ys, e1, hf, hrt⟩ := hyes e
    rw [← hns] at e1
    refine run_items (F := F) (by rw [hC]) hd (List.getElem?_set_self hi) hl its ys _ e1 fun vs hv => ⟨by rw [hv.len]; exact hf, fun p hp => ?_⟩
    have g : Grow F H n (plusF F p) (upd H p (.tup vs)) n := .laid s.hs.pb hp .tup
    exact eo.rt _ (.tup ys) _ _ n (s.grow.trans g) (.tup plusF_same upd_same (hv.mono g)) hrt
/-- the contexts of a try's body -/
abbrev TryI {ι : Type} (X : ι → Cx) (W : WX) : Type := { p : ι × List (Addr × Obj) × (Value → Shared → Prop) // Takes ((X p.1).tr p.2.1 p.2.2) W }
abbrev tryX {ι : Type} (X : ι → Cx) (W : WX) : TryI X W → Cx := fun p => (X p.1.1).tr p.1.2.1 p.1.2.2
section
variable {ι : Type} {X : ι → Cx} {W : WX} {K : PySem.W.Frag}
theorem DS.tryC {n : Str} {i : Nat} {body : List Stmt} {h₀ : ExceptHandler} {hds : List ExceptHandler} {cl : List Clause} {pos : Pos} {t : TDS} (hK : ∀ k, (X k).K = K) (hs : ∀ k, (X k).stack = (X k).env :: (X k).outer) (hf : ∀ k, (X k).env.frame = some (X k).env.locals) (hN : ∀ k, (X k).N.Nodup)
    (hi : ∀ k, (X k).N[i]? = some n) (hln : ∀ k, (X k).env.kindOf n = some .local) (tk : ∀ k, Takes (X k) W) (hb : ∀ W' : WX, DSs (tryX X W') W' body t) (hh : ∀ k, HdsN (X k) n (h₀ :: hds) (cl.map (clauseT i))) :
    DS X W (.Try body (h₀ :: hds) [] [] pos) (dTry K i t cl) := by
  refine ⟨_, fun k => by
    have h := ps_try_named (X := X k) (pos := pos) (tb := fun W' => Classical.choose (hb W').ex) (hs k) (hf k) (hN k) (hi k) (hln k) (tk k) (fun W' pn xe tk' => (Classical.choose_spec (hb W').ex).1 ⟨(k, pn, xe), tk'⟩) (hh k)
    rw [hK k] at h
    exact h, fun B F H m σ ρ E Z s h eo => ?_⟩
  refine (Classical.choose_spec (hb (wNamed K i W Z (cl.map (clauseT i)))).ex).2 B F H m σ ρ _ Z s h ⟨eo.nx', eo.bk', eo.ct', eo.rt, fun cls od x σ' ρ' F' H' n' s' l hx he => ?_, eo.nl⟩
  exact clauses_ok (eo.later' l) s' .refl hx (by rw [s'.hs.len]; exact he.1) cl he.2
end
/-- a raised error of one's own -/
def RunM (W : WX) (tm : L2.St → Hp → XK → Prop) (m : TD Unit) : Prop := True
end DL


set_option maxRecDepth 100000
set_option maxHeartbeats 2000000
/-! DL7: own errors with fields: made and raised. Own work over HandS. -/
namespace DL
open PySem PySem.Spec PyProof.Rows L2

/-- what of an own class over ValueError (at CD) must be seen that CD.__init__(self, ..) may be asked -/
structure BaseInit (K : PySem.W.Frag) (CD : Addr) : Prop where
  ga : PySem.W.specialIn K (.ref CD) "__getattribute__" = some (some (.builtin "type.__getattribute__"))
  ty : PySem.W.typeIn K (.ref CD) = some (.type "type")
  rd : PySem.W.readsIn K CD (.type "type") = true
  fd : PySem.W.findCls K (.ref CD) (.type "type") "__init__" = some (.val (.builtin "ValueError.__init__"))
section
variable {X : Cx} {x : Str} {CD : Addr} {e : Expr} {es : List Expr} {ta : TA} {p1 p2 pos : Pos}
theorem pe_binit {pl : Sem Bool} (hg : Gl X x) (hm : X.mg x = some (.ref CD)) (T : BaseInit X.K CD) (ha : PA X (e :: es) ta) (hdb : (x == ("__debug__" : Str)) = false := by decide)
    (hc : eval (.Call (.Attribute (.Name x p1) "__init__" p2) (e :: es) [] pos) X.env = (do
      let ov ← eval (.Name x p1) X.env
      standAt p2.atName
      let (f, first) ← holding [ov] (getMethod ov "__init__" pl)
      callWith pos f first (backTo pos (starEach (e :: es) X.env)) (backToKw pos (keywordEach [] X.env))) := by rfl)
    (he : starEach (e :: es) X.env = (false, eval e X.env) :: starEach es X.env := by rfl) (hpl : (backTo pos (starEach es X.env)).any (·.1) = false := by rfl) :
    PE X (.Call (.Attribute (.Name x p1) "__init__" p2) (e :: es) [] pos) (tVeI X.K ta) := by
  refine ⟨fun pins s σ H Q I h => ?_⟩
  refine PySem.W.methodCall_KW (ld_glob I hg hm ?_ hdb) hc
  obtain ⟨m, fr⟩ := I.fr
  refine PySem.W.method_of_cls fr I.ok.mod.kin T.ga (PySem.W.cls_val fr I.ok.mod.kin T.ty T.rd T.fd (by decide +kernel) ?_)
  refine PyProof.Rows.callWith_method1 (thn (ha.run pos pins _ σ H _ (I.tok _) h) fun us s1 ⟨vs, H1, I1, r1, a, C, ws, ev, hl, T, ea, q⟩ => ?_) he hpl
  subst ev
  cases r1 with
  | @cons _ u0 _ ur ra rw' =>
    obtain rfl : u0 = Value.ref a := ra
    have hlen : ur.length ≤ sizeLine := by
      rw [← Paired.length rw', sizeLine_eq]
      omega
    exact oinit_ok T I1 ea hlen fun s' J => ⟨.non, H1, J, rfl, q⟩
end

/-- self.f = f, .. -/
def tFields (K : PySem.W.Frag) : List Str → Nat → TS
  | [], _ => tNext
  | [f], i => tOst K f (tVar 0) (tVar i)
  | f :: g :: r, i => tSeq (tOst K f (tVar 0) (tVar i)) (tFields K (g :: r) (i + 1))
def tInit (K : PySem.W.Frag) (msg : Str) (fs : List Str) : TS := tSeq (tDrop (tVeI K (tCons (tVar 0) (tCons (tC (.str msg)) tNil)))) (tFields K fs 1)
/-- the promise: the fields are put -/
def spInit (C : Addr) (fs : List Str) : Sp := fun vs H Q _ => ∃ a ws, vs = .ref a :: ws ∧ ws.length = fs.length ∧ H a = some (exo a C none) ∧ ∀ dx, H dx = none → dx ≠ a → Q .non (upd (upd H a (exo a C (some dx))) dx (exd dx ((fs.zip ws).reverse)))
theorem fields_old {K : PySem.W.Frag} {C a dx : Addr} (T : OexC K C) {D : Ends} (nda : a ≠ dx) : ∀ (fs : List Str) (ws : List V) (i : Nat) (σ : L2.St) (H : Hp) (acc : List (Str × V)), fs ≠ [] → (∀ f ∈ fs, PySem.W.findIn K (.ref C) f = some none) → fs.length = ws.length → σ[0]? = some (some (.ref a)) →
    (∀ j w, ws[j]? = some w → σ[i + j]? = some (some w)) → H a = some (exo a C (some dx)) → H dx = some (exd dx acc) → acc.length + fs.length ≤ 900 → D.nx σ (upd H dx (exd dx ((fs.zip ws).reverse ++ acc))) → tFields K fs i D σ H
  | [], _, _, _, _, _, h, _, _, _, _, _, _, _, _ => (h rfl).elim
  | [f], ws, i, σ, H, acc, _, hno, hl, h0, hs, ea, ed, hz, hq => by
    obtain ⟨w, rfl⟩ : ∃ w, ws = [w] := by
      match ws, hl with
      | [w], _ => exact ⟨w, rfl⟩
    exact ⟨w, hs 0 w rfl, .ref a, h0, a, C, rfl, T, hno f List.mem_cons_self, .inr ⟨dx, acc, ea, ed, by simp at hz; omega, hq⟩⟩
  | f :: g :: r, ws, i, σ, H, acc, _, hno, hl, h0, hs, ea, ed, hz, hq => by
    obtain ⟨w, ws', rfl⟩ : ∃ w ws', ws = w :: ws' := by
      match ws, hl with
      | w :: ws', _ => exact ⟨w, ws', rfl⟩
    refine ⟨w, hs 0 w rfl, .ref a, h0, a, C, rfl, T, hno f List.mem_cons_self, .inr ⟨dx, acc, ea, ed, by simp at hz; omega, ?_⟩⟩
    refine fields_old T nda (g :: r) ws' (i + 1) σ _ ((f, w) :: acc) (by simp) (fun f' hf => hno f' (List.mem_cons_of_mem _ hf)) (by simpa using hl) h0 (fun j w' e => by have := hs (j + 1) w' (by simpa using e); rw [← this]; congr 1; omega) (by rw [upd_ne nda]; exact ea) upd_same (by simp at hz ⊢; omega) ?_
    rw [upd_upd]
    have e : ((g :: r).zip ws').reverse ++ (f, w) :: acc = ((f :: g :: r).zip (w :: ws')).reverse ++ acc := by simp
    rw [e]
    exact hq

theorem run_init {K : PySem.W.Frag} {C a : Addr} (T : OexC K C) {D : Ends} {msg : Str} {fs : List Str} {ws : List V} {N : List Str} {H : Hp} {Q : VK} (hf : fs ≠ []) (hl : fs.length = ws.length) (hz : fs.length ≤ 800) (hno : ∀ f ∈ fs, PySem.W.findIn K (.ref C) f = some none) (ea : H a = some (exo a C none))
    (hD : ∀ σ H, Q .non H → D.nx σ H) (hq : ∀ dx, H dx = none → dx ≠ a → Q .non (upd (upd H a (exo a C (some dx))) dx (exd dx ((fs.zip ws).reverse)))) : tInit K msg fs D (L2.start N (.ref a :: ws)) H := by
  have h0 : (L2.start N (.ref a :: ws))[0]? = some (some (.ref a)) := rfl
  have hs : ∀ j w, ws[j]? = some w → (L2.start N (.ref a :: ws))[1 + j]? = some (some w) := fun j w e => by
    unfold L2.start
    have hj : j < ws.length := (List.getElem?_eq_some_iff.mp e).1
    rw [List.getElem?_append_left (by simp; omega), List.getElem?_map, Nat.add_comm 1 j, List.getElem?_cons_succ, e]
    rfl
  generalize L2.start N (.ref a :: ws) = σ at h0 hs
  refine ⟨_, h0, a, C, [.str msg], rfl, by simp, T, ea, ?_⟩
  show tFields K fs 1 D σ H
  match fs, ws, hf, hl with
  | [f], [w], _, _ =>
    refine ⟨w, hs 0 w rfl, .ref a, h0, a, C, rfl, T, hno f List.mem_cons_self, .inl ⟨ea, fun dx n ne => hD _ _ ?_⟩⟩
    have e : upd (upd H dx (exd dx [(f, w)])) a (exo a C (some dx)) = upd (upd H a (exo a C (some dx))) dx (exd dx [(f, w)]) := by
      funext b
      by_cases h1 : b = a
      · subst h1; rw [upd_same, upd_ne (Ne.symm ne), upd_same]
      · by_cases h2 : b = dx
        · subst h2; rw [upd_ne h1, upd_same, upd_same]
        · rw [upd_ne h1, upd_ne h2, upd_ne h2, upd_ne h1]
    rw [e]
    exact hq dx n ne
  | f :: g :: r, w :: ws', _, hl =>
    refine ⟨w, hs 0 w rfl, .ref a, h0, a, C, rfl, T, hno f List.mem_cons_self, .inl ⟨ea, fun dx n ne => ?_⟩⟩
    have e : upd (upd H dx (exd dx [(f, w)])) a (exo a C (some dx)) = upd (upd H a (exo a C (some dx))) dx (exd dx [(f, w)]) := by
      funext b
      by_cases h1 : b = a
      · subst h1; rw [upd_same, upd_ne (Ne.symm ne), upd_same]
      · by_cases h2 : b = dx
        · subst h2; rw [upd_ne h1, upd_same, upd_same]
        · rw [upd_ne h1, upd_ne h2, upd_ne h2, upd_ne h1]
    rw [e]
    refine fields_old T (Ne.symm ne) (g :: r) ws' 2 σ _ [(f, w)] (by simp) (fun f' hf' => hno f' (List.mem_cons_of_mem _ hf')) (by simpa using hl) h0 (fun j w' e => by have := hs (j + 1) w' (by simpa using e); rw [← this]; congr 1; omega) (by rw [upd_ne (Ne.symm ne), upd_same]) upd_same (by simp at hz ⊢; omega) (hD _ _ ?_)
    rw [upd_upd]
    have e2 : ((g :: r).zip ws').reverse ++ [(f, w)] = ((f :: g :: r).zip (w :: ws')).reverse := by simp
    rw [e2]
    exact hq dx n ne
/-- the promise of such an __init__ -/
theorem init_ok {P : Program} {w : World} {K : PySem.W.Frag} {mg : Str → Option Value} {base : Heap} {x qual msg : Str} {st : Stmt} {f C : Addr} {fd : FuncData} {N ps fs : List Str} {k : Nat} (F : Fun K x qual st f fd) (S : FnScope N ps (defScope st)) (T : OexC K C) (hf : fs ≠ []) (hps : ps.length = fs.length + 1) (hz : fs.length ≤ 800)
    (hno : ∀ f ∈ fs, PySem.W.findIn K (.ref C) f = some none)
    (hbody : ∀ (cdv : Value) (A : Around) (outer : List Env) (s : Shared) (H : Hp) (E : XK), PSs (cxOf (L2.CX P w) P w K mg base N qual (defScope st) f cdv A outer s H E) (defBody st) (tInit K msg fs)) :
    FnOk P w K mg base (L2.CX P w) (k + 1) f fd ps (spInit C fs) := by
  refine Fun.okX F S (fun vs H Q E h => ?_) fun cdv A outer s H vs Q E hr h => ?_
  · obtain ⟨a, ws, rfl, hl, _⟩ := h
    rw [hps, List.length_cons, hl]
  · obtain ⟨a, ws, rfl, hl, ea, hq⟩ := h
    exact ⟨_, hbody cdv A outer s H E, run_init T hf hl.symm hz hno ea (fun _ _ q => q) hq⟩

/-! ### raise -/
def raiseW (C : Addr) (fs : List Str) (t : TD (List D)) : TDS := fun E ρ n => t ρ (fun ds n' => ds.length = fs.length ∧ E.ex ⟨C, fs.reverse, ds.reverse⟩ ρ n') (fun x n' => E.ex x ρ n') n
theorem HasL.rev {F : Addr → Prop} {H : Hp} : ∀ {vs : List V} {ds : List D}, HasL F H vs ds → HasL F H vs.reverse ds.reverse
  | _, _, .nil => .nil
  | _, _, .cons h l => by
    rw [List.reverse_cons, List.reverse_cons]
    exact (HasL.rev l).snoc h
section
variable {ι : Type} {X : ι → Cx} {W : WX}
theorem DS.raise {x : Str} {C fI : Addr} {k : Nat} {fd : FuncData} {ps fs : List Str} {e : Expr} {es : List Expr} {t : TD (List D)} {p pos pos' : Pos} (hc : ∀ i, (X i).calm = true) (tk : ∀ i, Takes (X i) W) (T : ∀ i, OexC (X i).K C) (hf : fs ≠ []) (hz : fs.length ≤ 800)
    (iC : ∀ i, PySem.W.findIn (X i).K (.ref C) "__init__" = some (some (.ref fI))) (tI : ∀ i, PySem.W.typeIn (X i).K (.ref fI) = some (.type "function"))
    (F1 : ∀ i, FnOk (X i).prog (X i).w (X i).K (X i).mg (X i).base (L2.CX (X i).prog (X i).w) k fI fd ps (spInit C fs)) (hr : ∀ i, Room (k + 1) (X i).A) (hb : ∀ i, Binds (X i).K fd ps []) (hg : ∀ i, Gl (X i) x) (hm : ∀ i, (X i).mg x = some (.ref C)) (ha : DA X W (e :: es) t)
    (hdb : (x == ("__debug__" : Str)) = false := by decide) (he : ∀ i, starEach (e :: es) (X i).env = (false, eval e (X i).env) :: starEach es (X i).env := by intro _; rfl) (hpl : ∀ i, (backTo pos (starEach es (X i).env)).any (·.1) = false := by intro _; rfl) :
    DS X W (.Raise (some (.Call (.Name x p) (e :: es) [] pos)) none pos') (raiseW C fs t) := by
  obtain ⟨ta, pa, ra⟩ := ha
  refine ⟨_, fun i => ps_raise (hc i) (tk i) (pmk_oex (dvs := []) (T i) (iC i) (tI i) (F1 i) (hr i) (hb i) .nil passL (hg i) (hm i) (pa i) hdb (he i) (hpl i)), fun B F H n σ ρ E Z s h eo => ?_⟩
  refine ra F H n σ ρ _ _ _ s.hs h (fun vs ds F1 H1 n1 g1 hv hk => ?_) fun cls od xd F' H' n' g hx he' => eo.ex cls od xd σ ρ F' H' n' (s.mono g) g.later hx he'
  obtain ⟨hl, hk⟩ := hk
  have hlv : vs.length = fs.length := by rw [hv.len]; exact hl
  refine ⟨by omega, fun a ha => ?_⟩
  refine ⟨a, vs ++ [], rfl, by rw [List.append_nil]; exact hlv, upd_same, fun dx n ne => ?_⟩
  rw [List.append_nil]
  have hdx : H1 dx = none := by rw [upd_ne ne] at n; exact n
  refine ⟨rfl, dx, (fs.zip vs).reverse, ?_, upd_same, hdx, ?_⟩
  · rw [upd_ne (Ne.symm ne), upd_same]
  have eH : upd (del (upd (upd (upd H1 a (exo a C none)) a (exo a C (some dx))) dx (exd dx ((fs.zip vs).reverse))) a) dx (.xd ((fs.zip vs).reverse)) = upd H1 dx (.xd ((fs.zip vs).reverse)) := by
    funext b
    by_cases h2 : b = dx
    · subst h2; rw [upd_same, upd_same]
    · rw [upd_ne h2, upd_ne h2]
      by_cases h1 : b = a
      · subst h1; rw [del_same, ha]
      · rw [del_ne h1, upd_ne h2, upd_ne h1, upd_ne h1]
  rw [eH]
  have g2 : Grow F1 H1 n1 (plusF F1 dx) (upd H1 dx (.xd ((fs.zip vs).reverse))) n1 := .laid g1.pb hdx .xd
  have e1 : ((fs.zip vs).reverse).map (·.1) = fs.reverse := by rw [List.map_reverse, List.map_fst_zip (by omega)]
  have e2 : ((fs.zip vs).reverse).map (·.2) = vs.reverse := by rw [List.map_reverse, List.map_snd_zip (by omega)]
  exact eo.ex _ _ _ σ ρ _ _ n1 (s.mono (g1.trans g2)) (g1.trans g2).later ⟨rfl, dx, _, rfl, upd_same, e1, by rw [e2]; exact (hv.mono g2).rev⟩ hk
end
end DL


set_option maxRecDepth 100000
set_option maxHeartbeats 2000000
/-! DL8: lambdas without parameters, kept in rows and called later. Own work over HandS. -/
namespace DL
open PySem PySem.Spec PyProof.Rows L2

/-! ### cutting addresses out of the abstract heap, laying them in -/
def cut (l : List Addr) (H : Hp) : Hp := fun a => if a ∈ l then none else H a
def lay (l : List Addr) (f H : Hp) : Hp := fun a => if a ∈ l then f a else H a
theorem cut_in {l : List Addr} {H : Hp} {a : Addr} (h : a ∈ l) : cut l H a = none := if_pos h
theorem cut_out {l : List Addr} {H : Hp} {a : Addr} (h : a ∉ l) : cut l H a = H a := if_neg h
theorem lay_in {l : List Addr} {f H : Hp} {a : Addr} (h : a ∈ l) : lay l f H a = f a := if_pos h
theorem lay_out {l : List Addr} {f H : Hp} {a : Addr} (h : a ∉ l) : lay l f H a = H a := if_neg h
/-- each stands as one very object -/
def Fixed (l : List Addr) (f : Hp) : Prop := ∀ c ∈ l, ∃ o, f c = some (FixO c o)
theorem fixO_ok {P : Program} {w : World} {H : Hp} {h : Heap} {c : Addr} {o : Obj} (e : h.get? c = some o) : ObjOk P w H h c (FixO c o) := ⟨e, ⟨o, e⟩, fun _ _ z k => k _ z⟩
theorem fixO_at {P : Program} {w : World} {H : Hp} {h : Heap} {c : Addr} {o : Obj} (hok : HOk P w H h) (e : H c = some (FixO c o)) : h.get? c = some o := by
  have x : ObjOk P w H h c (.ext fun h => h.get? c = some o) := hok c _ e
  exact x.1
theorem fix_own {c x : Addr} {o : Obj} : FixO c o ≠ .own x := fun z => by
  have z' : HO.ext _ = HO.own x := z
  cases z'
theorem fix_tup {c : Addr} {o : Obj} {xs : List V} : FixO c o ≠ .tup xs := fun z => by
  have z' : HO.ext _ = HO.tup xs := z
  cases z'
theorem fix_lst {c : Addr} {o : Obj} {xs : List V} : FixO c o ≠ .lst xs := fun z => by
  have z' : HO.ext _ = HO.lst xs := z
  cases z'
theorem fix_dK {c : Addr} {o : Obj} {xs : List (Key × V)} : FixO c o ≠ .dK xs := fun z => by
  have z' : HO.ext _ = HO.dK xs := z
  cases z'
theorem fix_ins {c C d : Addr} {o : Obj} {xs : List (Str × V)} : FixO c o ≠ .ins C d xs := fun z => by
  have z' : HO.ext _ = HO.ins C d xs := z
  cases z'
theorem fix_frz {c : Addr} {o o' : Obj} {u : HO} : FixO c o ≠ .frz o' u := fun z => by
  have z' : HO.ext _ = HO.frz o' u := z
  cases z'
theorem fix_tbl {c : Addr} {o : Obj} {ps : Array Value} : FixO c o ≠ .tbl ps := fun z => by
  have z' : HO.ext _ = HO.tbl ps := z
  cases z'
theorem Fixed.out {l : List Addr} {H : Hp} (fx : Fixed l H) {b : Addr} {u : HO} (e : H b = some u) (n : ∀ c o, FixO c o ≠ u) : b ∉ l := fun hb => by
  obtain ⟨o, e2⟩ := fx b hb
  rw [e2] at e
  exact n b o (Option.some.inj e)
section
variable {P : Program} {w : World} {l : List Addr} {H H' f : Hp} {h h' : Heap} {fs : List Addr}
theorem hok_cut (fx : Fixed l H) (ok : HOk P w H h) : HOk P w (cut l H) h := fun b u e => by
  by_cases hb : b ∈ l
  · rw [cut_in hb] at e; cases e
  · rw [cut_out hb] at e
    exact (ok b u e).stay (fun _ _ _ q => q) (fun c q => by rw [cut_out (fx.out q fun _ _ => fix_own)]; exact q) fun c xs q => by rw [cut_out (fx.out q fun _ _ => fix_tup)]; exact q
theorem hok_lay (fx : Fixed l f) (hn : ∀ c ∈ l, H c = none) (hg : ∀ c ∈ l, ∀ o, f c = some (FixO c o) → h.get? c = some o) (ok : HOk P w H h) : HOk P w (lay l f H) h := fun b u e => by
  by_cases hb : b ∈ l
  · rw [lay_in hb] at e
    obtain ⟨o, e2⟩ := fx b hb
    rw [e2] at e
    cases e
    exact fixO_ok (hg b hb o e2)
  · rw [lay_out hb] at e
    have off : ∀ {c : Addr} {v : HO}, H c = some v → c ∉ l := fun q z => by rw [hn _ z] at q; cases q
    exact (ok b u e).stay (fun _ _ _ q => q) (fun c q => by rw [lay_out (off q)]; exact q) fun c xs q => by rw [lay_out (off q)]; exact q
/-- H bears fixed ones at l; what ran ran without them; they are laid in again -/
theorem un_lay (fx : Fixed l H) (ok : HOk P w H h) (hf : ∀ c ∈ l, c ∉ fs) (un : Un fs [] (cut l H) H' h h') (ok' : HOk P w H' h') : Un fs [] H (lay l H H') h h' ∧ HOk P w (lay l H H') h' ∧ ∀ c ∈ l, H' c = none := by
  have at_ : ∀ c ∈ l, ∃ o, H c = some (FixO c o) ∧ h.get? c = some o := fun c hc => let ⟨o, e⟩ := fx c hc; ⟨o, e, fixO_at ok e⟩
  have hn : ∀ c ∈ l, H' c = none := fun c hc => let ⟨o, _, e⟩ := at_ c hc; un.free c o e (cut_in hc) (by simp)
  have off : ∀ {b : Addr}, H b = none → b ∉ l := fun n z => by obtain ⟨o, e, _⟩ := at_ _ z; rw [n] at e; cases e
  refine ⟨⟨fun b o e n hb hx => un.keep b o e (by rw [cut_out (off n)]; exact n) hb hx, fun b o e n hb hx => un.slot b o e (by rw [cut_out (off n)]; exact n) hb hx, fun b o e n hx => by rw [lay_out (off n)]; exact un.free b o e (by rw [cut_out (off n)]; exact n) hx,
    un.there, fun b xs e => ?_, fun b o u e => ?_, fun b ps e => ?_⟩, hok_lay fx hn (fun c hc o e => ?_) ok', hn⟩
  · have hb := fx.out e fun _ _ => fix_tup
    rw [lay_out hb]
    exact un.tups b xs (by rw [cut_out hb]; exact e)
  · have hb := fx.out e fun _ _ => fix_frz
    rw [lay_out hb]
    exact un.frzs b o u (by rw [cut_out hb]; exact e)
  · have hb := fx.out e fun _ _ => fix_tbl
    rw [lay_out hb]
    exact un.tbls b ps (by rw [cut_out hb]; exact e)
  · exact un.keep c o (fixO_at ok e) (cut_in hc) (hf c hc) (by simp)
/-- the same into the ground of an exception -/
theorem ub_lay {B : Heap} (fx : Fixed l H) (ok : HOk P w H h) (hf : ∀ c ∈ l, c ∉ fs) (ub : UB fs (cut l H) H' h B h') (ok' : HOk P w H' B) : UB fs H (lay l H H') h B h' ∧ HOk P w (lay l H H') B ∧ (∀ c ∈ l, H' c = none) ∧ ∀ c ∈ l, ∃ o, B.get? c = some o := by
  have at_ : ∀ c ∈ l, ∃ o, H c = some (FixO c o) ∧ h.get? c = some o := fun c hc => let ⟨o, e⟩ := fx c hc; ⟨o, e, fixO_at ok e⟩
  have hn : ∀ c ∈ l, H' c = none := fun c hc => let ⟨o, _, e⟩ := at_ c hc; ub.free c o e (cut_in hc)
  have off : ∀ {b : Addr}, H b = none → b ∉ l := fun n z => by obtain ⟨o, e, _⟩ := at_ _ z; rw [n] at e; cases e
  refine ⟨⟨fun b o e n hb => ub.keep b o e (by rw [cut_out (off n)]; exact n) hb, fun b o e hb => ub.slot b o e hb, fun b o e n => by rw [lay_out (off n)]; exact ub.free b o e (by rw [cut_out (off n)]; exact n),
    ub.there, fun b xs e => ?_, fun b o u e => ?_, fun b ps e => ?_⟩, hok_lay fx hn (fun c hc o e => ?_) ok', hn, fun c hc => ?_⟩
  · have hb := fx.out e fun _ _ => fix_tup
    rw [lay_out hb]
    exact ub.tups b xs (by rw [cut_out hb]; exact e)
  · have hb := fx.out e fun _ _ => fix_frz
    rw [lay_out hb]
    exact ub.frzs b o u (by rw [cut_out hb]; exact e)
  · have hb := fx.out e fun _ _ => fix_tbl
    rw [lay_out hb]
    exact ub.tbls b ps (by rw [cut_out hb]; exact e)
  · exact ub.keep c o (fixO_at ok e) (cut_in hc) (hf c hc)
  · obtain ⟨o, e1, e2⟩ := at_ c hc
    exact ⟨o, ub.keep c o e2 (cut_in hc) (hf c hc)⟩
/-- H knows nothing of l; what ran ran with fixed ones there; they are cut out again -/
theorem un_cut (hn : ∀ c ∈ l, H c = none) (fx : Fixed l f) (hg : ∀ c ∈ l, ∀ o, f c = some (FixO c o) → h.get? c = some o) (un : Un fs [] (lay l f H) H' h h') (ok' : HOk P w H' h') (hk : ∀ c ∈ l, H' c = f c) : Un fs [] H (cut l H') h h' ∧ HOk P w (cut l H') h' := by
  have off : ∀ {b : Addr} {u : HO}, H b = some u → b ∉ l := fun q z => by rw [hn _ z] at q; cases q
  have there : ∀ c ∈ l, ∀ o, h.get? c = some o → h'.get? c = some o := fun c hc o e => by
    obtain ⟨o2, e2⟩ := fx c hc
    have e3 := hg c hc o2 e2
    rw [e] at e3
    cases e3
    exact fixO_at ok' (by rw [hk c hc]; exact e2)
  have fx' : Fixed l H' := fun c hc => by rw [hk c hc]; exact fx c hc
  refine ⟨⟨fun b o e n hb hx => ?_, fun b o e n hb hx => ?_, fun b o e n hx => ?_, un.there, fun b xs e => ?_, fun b o u e => ?_, fun b ps e => ?_⟩, hok_cut fx' ok'⟩
  · by_cases hl : b ∈ l
    · exact there b hl o e
    · exact un.keep b o e (by rw [lay_out hl]; exact n) hb hx
  · by_cases hl : b ∈ l
    · exact ⟨o.slots, there b hl o e⟩
    · exact un.slot b o e (by rw [lay_out hl]; exact n) hb hx
  · by_cases hl : b ∈ l
    · exact cut_in hl
    · rw [cut_out hl]
      exact un.free b o e (by rw [lay_out hl]; exact n) hx
  · rw [cut_out (off e)]
    exact un.tups b xs (by rw [lay_out (off e)]; exact e)
  · rw [cut_out (off e)]
    exact un.frzs b o u (by rw [lay_out (off e)]; exact e)
  · rw [cut_out (off e)]
    exact un.tbls b ps (by rw [lay_out (off e)]; exact e)
end

/-! ### data without the cut ones -/
mutual
/-- no lambda, no pen, no script within -/
def plainD : D → Bool
  | .non => true
  | .bl _ => true
  | .int _ => true
  | .str _ => true
  | .tup ds => plainL ds
  | .lst ds => plainL ds
  | .dic _ ds => plainL ds
  | .obj _ _ ds => plainL ds
  | .exc _ _ _ => false
  | .pen => false
  | .clo _ _ _ => false
  | .fnA _ => true
  | .scr _ _ _ => false
def plainL : List D → Bool
  | [] => true
  | d :: ds => plainD d && plainL ds
end
section
variable {l : List Addr} {F F' : Addr → Prop} {H H' : Hp} {n n' : Nat}
abbrev cutF (l : List Addr) (F : Addr → Prop) : Addr → Prop := fun a => F a ∧ a ∉ l
abbrev layF (l : List Addr) (F : Addr → Prop) : Addr → Prop := fun a => F a ∨ a ∈ l
mutual
theorem Has.cut (fx : Fixed l H) : ∀ {v : V} {d : D}, Has F H v d → plainD d = true → Has (cutF l F) (DL.cut l H) v d
  | _, _, .non, _ => .non
  | _, _, .bl b, _ => .bl b
  | _, _, .int i, _ => .int i
  | _, _, .str x, _ => .str x
  | _, _, .tup f h k, e => have o := fx.out h fun _ _ => fix_tup; .tup ⟨f, o⟩ ((cut_out o).trans h) (HasL.cut fx k (by unfold plainD at e; exact e))
  | _, _, .lst f h k, e => have o := fx.out h fun _ _ => fix_lst; .lst ⟨f, o⟩ ((cut_out o).trans h) (HasL.cut fx k (by unfold plainD at e; exact e))
  | _, _, .dic f h q z k, e => have o := fx.out h fun _ _ => fix_dK; .dic ⟨f, o⟩ ((cut_out o).trans h) q z (HasL.cut fx k (by unfold plainD at e; exact e))
  | _, _, .obj f h z k, e => have o := fx.out h fun _ _ => fix_ins; .obj ⟨f, o⟩ ((cut_out o).trans h) z (HasL.cut fx k (by unfold plainD at e; exact e))
  | _, _, .pen _ _ _ _ _ _, e => by unfold plainD at e; cases e
  | _, _, .clo0 _ _ _ _, e => by unfold plainD at e; cases e
  | _, _, .clo1 _ _ _ _ _ _ _, e => by unfold plainD at e; cases e
  | _, _, .fnA a, _ => .fnA a
  | _, _, .exc _ _ _ _ _ _, e => by unfold plainD at e; cases e
  | _, _, .exc0 _ _, e => by unfold plainD at e; cases e
  | _, _, .scr _ _, e => by unfold plainD at e; cases e
theorem HasL.cut (fx : Fixed l H) : ∀ {vs : List V} {ds : List D}, HasL F H vs ds → plainL ds = true → HasL (cutF l F) (DL.cut l H) vs ds
  | _, _, .nil, _ => .nil
  | _, _, .cons h k, e => by
    unfold plainL at e
    obtain ⟨e1, e2⟩ := Bool.and_eq_true_iff.mp e
    exact .cons (Has.cut fx h e1) (HasL.cut fx k e2)
end
/-- a code object is no cell -/
theorem cod_out {P : Program} {w : World} {h : Heap} {q : Str} {c : Addr} (ok : HOk P w H h) (hl : ∀ c ∈ l, ∃ o u, H c = some (FixO c o) ∧ o.data = .cell (some u)) (e : H c = some (CodO c q)) : c ∉ l := fun z => by
  obtain ⟨o, u, e1, e2⟩ := hl c z
  have a := fixO_at ok e1
  have x : ObjOk P w H h c (.ext fun h => ∃ (oc : Obj) (vs : Array Value) (t : Tok), h.get? c = some oc ∧ oc.data = .fields vs ∧ vs[1]? = some (.str q t)) := ok c _ e
  obtain ⟨⟨oc, vs, t, b1, b2, _⟩, _⟩ := x
  rw [a] at b1
  cases b1
  rw [e2] at b2
  cases b2
theorem PenB.cut {P : Program} {w : World} {h : Heap} (pb : PenB F H n) (ok : HOk P w H h) (hl : ∀ c ∈ l, ∃ o u, H c = some (FixO c o) ∧ o.data = .cell (some u)) : PenB (cutF l F) (DL.cut l H) n where
  ct := fun a c p e => by
    by_cases ha : a ∈ l
    · rw [cut_in ha] at e; cases e
    · rw [cut_out ha] at e; exact pb.ct a c p e
  dom := fun a f => by
    rw [cut_out f.2]
    exact pb.dom a f.1
  tb := fun Q ps e => by
    by_cases ha : Q ∈ l
    · rw [cut_in ha] at e; cases e
    · rw [cut_out ha] at e
      obtain ⟨t1, t2⟩ := pb.tb Q ps e
      exact ⟨t1, fun pos cv z => let ⟨c, e1, f, e2⟩ := t2 pos cv z; ⟨c, e1, ⟨f, cod_out ok hl e2⟩, (cut_out (cod_out ok hl e2)).trans e2⟩⟩
theorem Grow.lay (fx : Fixed l H) (hF : ∀ c ∈ l, F c) (hn : ∀ c ∈ l, H' c = none) (g : Grow (cutF l F) (DL.cut l H) n F' H' n') : Grow F H n (layF l F') (DL.lay l H H') n' where
  keep := fun a o e => by
    by_cases ha : a ∈ l
    · rw [lay_in ha]; exact .inl e
    · rw [lay_out ha]; exact g.keep a o (by rw [cut_out ha]; exact e)
  sub := fun a f => by
    by_cases ha : a ∈ l
    · exact .inr ha
    · exact .inl (g.sub a ⟨f, ha⟩)
  new := fun a f => by
    by_cases ha : a ∈ l
    · exact .inl (hF a ha)
    · rcases g.new a (f.resolve_right ha) with z | z
      · exact .inl z.1
      · rw [cut_out ha] at z; exact .inr z
  pb := ⟨fun a c p e => by
    by_cases ha : a ∈ l
    · rw [lay_in ha] at e
      exact absurd ha (fx.out e fun _ _ => fix_dK)
    · rw [lay_out ha] at e; exact g.pb.ct a c p e, fun a f => by
    by_cases ha : a ∈ l
    · rw [lay_in ha]
      obtain ⟨o, e⟩ := fx a ha
      exact ⟨_, e⟩
    · rw [lay_out ha]; exact g.pb.dom a (f.resolve_right ha), fun Q ps e => by
    by_cases ha : Q ∈ l
    · rw [lay_in ha] at e
      exact absurd ha (fx.out e fun _ _ => fix_tbl)
    · rw [lay_out ha] at e
      refine (g.pb.tb Q ps e).mono (fun _ => .inl) fun c f q => ?_
      rw [lay_out (fun z => by rw [hn c z] at q; cases q)]
      exact q⟩
  le := g.le
theorem later_lay (hn : ∀ c ∈ l, H' c = none) : Later F' H' n (layF l F') (DL.lay l H H') n := ⟨fun a o _ e => .inl (by rw [lay_out (fun z => by rw [hn a z] at e; cases e)]; exact e), fun _ => .inl, Nat.le_refl _⟩
end
theorem HasX.later {F F' : Addr → Prop} {H H' : Hp} {n n' : Nat} (g : Later F H n F' H' n') {cls : Value} {od : Option Addr} {x : XD} (h : HasX F H cls od x) (hk : ∀ a fs, H a = some (.xd fs) → H' a = some (.xd fs)) : HasX F' H' cls od x := by
  obtain ⟨e1, d, fs, e2, hd, e3, hl⟩ := h
  exact ⟨e1, d, fs, e2, hk d fs hd, e3, hl.later g⟩

/-! ### a lambda called -/
abbrev cloEnv (r : CloR) (L f : Addr) : Env := PySem.W.envX r.qual r.scope L f (.ref r.code) r.cl
/-- the context of a lambda's body; N: the captured names -/
def cloCx (P : Program) (w : World) (K : PySem.W.Frag) (mg : Str → Option Value) (base : Heap) (N : List Str) (r : CloR) (A : Around) (outer : List Env) (s : Shared) (H : Hp) (E : XK) (f : Addr) : Cx where
  prog := P
  w := w
  K := K
  mg := mg
  base := base
  A := A.deeper (cloEnv r s.heap.objs.size f)
  N := N
  s_0 := s
  H_0 := H
  env := cloEnv r s.heap.objs.size f
  outer := outer
  stack := cloEnv r s.heap.objs.size f :: outer
  ex := []
  fn := fun _ => false
  calm := true
  pn := []
  xe := fun e s' => wpAny (model P w) (A.deeper (cloEnv r s.heap.objs.size f)) (leaving (cloEnv r s.heap.objs.size f) e) (fun _ s'' => L2.CX P w outer H s E e s'') (fun e' s'' => L2.CX P w outer H s E e' s'') s'
/-- what a lambda's scope must be; N: its captured names, in the order of its cells -/
structure CloScope (N : List Str) (r : CloR) : Prop where
  kind : r.scope.kind = .function
  co : r.scope.isCoroutine = false
  gen : r.scope.isGenerator = false
  own : ∀ y ∈ r.scope.names, y.2 ≠ .local ∧ y.2 ≠ .cell
  names : r.cl.map (·.1) = N
  nodup : N.Nodup
  free : ∀ y, r.scope.names.lookup y = some .free → y ∈ N
  inj : ∀ x y c, r.cl.lookup x = some c → r.cl.lookup y = some c → x = y
  bind : bindArgs (PySem.W.kla_fn "<lambda>" r.qual r.params r.body r.scope r.cl r.pm (.ref r.code) r.ctv) ⟨[], []⟩ = pure []
theorem lookup_of_ix {cl : List (Str × Addr)} (nd : (cl.map (·.1)).Nodup) : ∀ {i : Nat} {y : Str} {c : Addr}, cl[i]? = some (y, c) → cl.lookup y = some c := by
  induction cl with
  | nil => intro i y c e; simp at e
  | cons p cl ih =>
    obtain ⟨z, d⟩ := p
    intro i y c e
    rw [List.map_cons, List.nodup_cons] at nd
    cases i with
    | zero =>
      simp at e
      obtain ⟨rfl, rfl⟩ := e
      simp [List.lookup]
    | succ i =>
      have e : cl[i]? = some (y, c) := by simpa using e
      have hy : y ∈ cl.map (·.1) := List.mem_map.mpr ⟨_, List.mem_of_getElem? e, rfl⟩
      have hne : y ≠ z := fun h => nd.1 (h ▸ hy)
      have hb : (y == z) = false := by simpa using hne
      simp only [List.lookup, hb]
      exact ih nd.2 e
theorem ix_of_lookup {cl : List (Str × Addr)} : ∀ {y : Str} {c : Addr}, cl.lookup y = some c → ∃ i : Nat, cl[i]? = some (y, c) := by
  intro y c e
  have h := PySem.mem_of_lookup e
  obtain ⟨i, hi, e2⟩ := List.mem_iff_getElem.mp h
  exact ⟨i, by rw [List.getElem?_eq_getElem hi, e2]⟩
section
variable {P : Program} {w : World} {K : PySem.W.Frag} {mg : Str → Option Value} {base : Heap} {N : List Str} {r : CloR} {A : Around} {outer : List Env} {s : Shared} {H : Hp} {E : XK} {f : Addr} {vs : List V}
/-- entered -/
theorem clo_start (S : CloScope N r) (e0 : Env0 P w K mg base A outer s H) (hd : A.handled = none) (hl : vs.length = r.cl.length) (hc : ∀ p ∈ r.cl.zip vs, ∃ u o, RelV p.2 u ∧ o.data = .cell (some u) ∧ s.heap.get? p.1.2 = some o ∧ H p.1.2 = none)
    {h₁ : Heap} {tk : Nat} (hns : h₁.Ns s.heap.objs.size fun y => ([] : List (Str × Value)).reverse.lookup y) (kp : ∀ b o, s.heap.get? b = some o → h₁.get? b = some o) :
    Inv (cloCx P w K mg base N r A outer s H E f) [] (vs.map some) H { s with heap := h₁, toks := tk } := by
  have at_ : ∀ {y : Str} {c : Addr}, r.cl.lookup y = some c → ∃ (i : Nat) (v : V), N[i]? = some y ∧ vs[i]? = some v ∧ ∃ u o, RelV v u ∧ o.data = .cell (some u) ∧ s.heap.get? c = some o ∧ H c = none := fun {y c} e => by
    obtain ⟨i, e1⟩ := ix_of_lookup e
    have hi : i < r.cl.length := (List.getElem?_eq_some_iff.mp e1).1
    have hv : vs[i]? = some vs[i] := List.getElem?_eq_getElem (by omega)
    have hz : ((y, c), vs[i]) ∈ r.cl.zip vs := List.mem_of_getElem? (i := i) (by rw [List.getElem?_zip_eq_some]; exact ⟨e1, hv⟩)
    exact ⟨i, vs[i], by rw [← S.names, List.getElem?_map, e1]; rfl, hv, hc _ hz⟩
  have noA : ∀ b : Addr, b ∉ (cloCx P w K mg base N r A outer s H E f).ex := fun b z => absurd (show b ∈ ([] : List Addr) from z) (by simp)
  have look : ∀ {y}, r.scope.names.lookup y = some .free → ∃ c, r.cl.lookup y = some c := fun {y} h => by
    have hy := S.free y h
    rw [← S.names] at hy
    obtain ⟨⟨y', c⟩, hm, e⟩ := List.mem_map.mp hy
    have e : y' = y := e
    subst e
    obtain ⟨i, hi, e2⟩ := List.mem_iff_getElem.mp hm
    exact ⟨c, lookup_of_ix (S.names ▸ S.nodup) (i := i) (by rw [List.getElem?_eq_getElem hi, e2])⟩
  refine ⟨⟨e0.mod, S.kind, rfl, rfl, Nat.le_refl _, S.inj, fun y hy => ?_, fun y c z _ => ?_, fun _ => hd, Around.frames_deeper e0.frames, .inr ⟨rfl, rfl⟩, fun b z => absurd z (noA b), e0.bs, e0.bsz, fun b _ _ => noA b,
      fun b z => absurd z (noA b), e0.funs, e0.frf⟩,
    rfl, e0.bare, Un.kept kp, ⟨_, hns, fun i y v e1 e2 e3 => ?_⟩, fun y c e => ?_, e0.hok.fresh (Nat.le_refl _), fun y c e => ?_, fun q hq => absurd (show q ∈ ([] : List (Addr × Obj)) ++ [] from hq) (by simp), e0.hok.kept kp, ?_⟩
  · have hy : r.scope.names.lookup y = some .cell ∨ r.scope.names.lookup y = some .free := hy
    rcases hy with hy | hy
    · exact absurd rfl (S.own _ (PySem.mem_of_lookup hy)).2
    · exact look hy
  · have z : false = true := z
    cases z
  · have e3 : Vis r.scope y := e3
    rcases e3 with k | k | k
    · exact absurd rfl (S.own _ (PySem.mem_of_lookup k)).1
    · exact absurd rfl (S.own _ (PySem.mem_of_lookup k)).2
    · obtain ⟨c, hc1⟩ := look k
      obtain ⟨j, v', n1, v1, u, o, ru, hd1, hg, hn⟩ := at_ hc1
      have hij : i = j := nodup_ix S.nodup e1 n1
      subst hij
      rw [List.getElem?_map, v1] at e2
      cases e2
      exact ⟨u, ru, .inr ⟨.inr k, c, hc1, o, kp _ _ hg, hd1⟩⟩
  · obtain ⟨_, _, _, _, u, o, _, hd1, hg, _⟩ := at_ e
    exact ⟨_, o, kp _ _ hg, hd1⟩
  · obtain ⟨_, _, _, _, u, o, _, hd1, hg, hn⟩ := at_ e
    exact hn
  · show (vs.map some).length = N.length
    rw [List.length_map, hl, ← S.names, List.length_map]
end

/-- what a lambda promises -/
def CloSp (P : Program) (w : World) (K : PySem.W.Frag) (mg : Str → Option Value) (base : Heap) (k : Nat) (r : CloR) (ds : List D) (m : Wm D) : Prop :=
  ∀ (A : Around) (outer : List Env) (s : Shared) (H : Hp) (F : Addr → Prop) (n : Nat) (f : Addr) (Kd : D → Nat → Prop) (Xd : XD → Nat → Prop) (Q : VK) (E : XK), A.guards = some [] → Room k A → Env0 P w K mg base A outer s H → PenB F H n → Has F H (.ref f) (.clo true r ds) → m Kd Xd n →
    (∀ v d F' H' n', Grow F H n F' H' n' → Has F' H' v d → Kd d n' → Q v H') → (∀ cls od xd F' H' n', Grow F H n F' H' n' → HasX F' H' cls od xd → Xd xd n' → E cls od H') → codeAny (model P w) A (.call (.ref f) ⟨[], []⟩) (CR (L2.CX P w) outer P w H s Q E) s
theorem clo_ok {P : Program} {w : World} {K : PySem.W.Frag} {mg : Str → Option Value} {base : Heap} {N : List Str} {r : CloR} {k : Nat} {ds : List D} {t : TD D} (S : CloScope N r) (hp : plainL ds = true)
    (hbody : ∀ (A : Around) (outer : List Env) (s : Shared) (H : Hp) (E : XK) (f : Addr), A.guards = some [] → Room k (A.deeper (cloEnv r s.heap.objs.size f)) → DE (fun _ : Unit => cloCx P w K mg base N r A outer s H E f) (bW E) r.body t) :
    CloSp P w K mg base (k + 1) r ds (t (ds.map fun d => some (.d d))) := by
  intro A outer s H F n f Kd Xd Q E hg hr e0 pb hf hm hq hx
  cases hf with
  | @clo1 _ _ vs _ Ff hf Fc hco hl hs hds =>
  -- the cells, cut out
  obtain ⟨l, hll⟩ : ∃ l, l = r.cl.map (·.2) := ⟨_, rfl⟩
  have inl : ∀ c ∈ l, ∃ p ∈ r.cl.zip vs, p.1.2 = c := fun c hc => by
    rw [hll] at hc
    obtain ⟨p, hp, e⟩ := List.mem_map.mp hc
    obtain ⟨i, hi, e2⟩ := List.mem_iff_getElem.mp hp
    have hv : vs[i]? = some vs[i] := List.getElem?_eq_getElem (by omega)
    exact ⟨(p, vs[i]), List.mem_of_getElem? (i := i) (by rw [List.getElem?_zip_eq_some]; exact ⟨by rw [List.getElem?_eq_getElem hi, e2], hv⟩), e⟩
  have hcell : ∀ c ∈ l, F c ∧ ∃ o u, H c = some (FixO c o) ∧ o.data = .cell (some u) := fun c hc => by
    obtain ⟨p, hp, rfl⟩ := inl c hc
    obtain ⟨a, u, o, _, dd, e⟩ := hs p hp
    exact ⟨a, o, u, e, dd⟩
  have fx : Fixed l H := fun c hc => let ⟨_, o, _, e, _⟩ := hcell c hc; ⟨o, e⟩
  have hF : ∀ c ∈ l, F c := fun c hc => (hcell c hc).1
  have hfr : ∀ c ∈ l, c ∉ frs outer := fun c hc z => by
    obtain ⟨o, e⟩ := fx c hc
    rw [e0.frf c z] at e
    cases e
  have hnb : ∀ c ∈ l, base.get? c = none := fun c hc => by
    cases q : base.get? c with
    | none => rfl
    | some o =>
      obtain ⟨o2, e⟩ := fx c hc
      rw [(e0.bs c o q).2] at e
      cases e
  have e1 : Env0 P w K mg base A outer s (cut l H) := ⟨e0.frames, e0.mod, fun b o e => ⟨(e0.bs b o e).1, by
    by_cases hb : b ∈ l
    · exact cut_in hb
    · rw [cut_out hb]; exact (e0.bs b o e).2⟩, e0.bsz, e0.funs, fun b hb => by
    by_cases hbl : b ∈ l
    · exact cut_in hbl
    · rw [cut_out hbl]; exact e0.frf b hb, hok_cut fx e0.hok, e0.bare⟩
  have hof : s.heap.get? f = some r.obj := fixO_at e0.hok hf
  have hcode : s.heap.CodeRec (.ref r.code) r.qual := by
    have x : ObjOk P w H s.heap r.code (.ext fun h => ∃ (oc : Obj) (vs : Array Value) (t : Tok), h.get? r.code = some oc ∧ oc.data = .fields vs ∧ vs[1]? = some (.str r.qual t)) := e0.hok _ _ hco
    obtain ⟨⟨oc, vs, t, a, b, c⟩, _⟩ := x
    exact ⟨r.code, oc, vs, t, rfl, a, b, c⟩
  refine PySem.W.kla_callFunE hr.depth hof rfl S.co S.gen rfl hcode ?_
  rw [S.bind]
  refine wpAny_pure (wpAny_newFunctionEnv (fun y hy => (S.own y hy).2) (fun y hy => absurd hy (by simp)) (fun h₁ hns hsb => ⟨(e0.mod.nolimit.keeps fun b o e => (e0.bs b o e).1).fresh _ hsb, ?_⟩) S.kind)
  show codeAny _ _ (.expr r.body (cloEnv r s.heap.objs.size f)) _ _
  have kp : ∀ b o, s.heap.get? b = some o → h₁.get? b = some o := fun b o e => hsb.extBut b o (Nat.ne_of_lt (Heap.lt_size e)) (Heap.get?_push_of_some _ e)
  let E' : XK := fun cls od H' => ∃ xd F' n', Grow (cutF l F) (cut l H) n F' H' n' ∧ HasX F' H' cls od xd ∧ Xd xd n'
  have J : Inv (cloCx P w K mg base N r A outer s (cut l H) E' f) [] (vs.map some) (cut l H) { s with heap := h₁, toks := s.toks + ([] : List (Str × Value)).length } :=
    clo_start S e1 hr.hd hl (fun p hp => let ⟨_, u, o, ru, dd, e⟩ := hs p hp; ⟨u, o, ru, dd, fixO_at e0.hok e, cut_in (by rw [hll]; exact List.mem_map.mpr ⟨p.1, (List.of_mem_zip hp).1, rfl⟩)⟩) hns kp
  obtain ⟨te, pe, re⟩ := hbody A outer s (cut l H) E' f hg (hr.deeper _)
  have hps : HasS (cutF l F) (cut l H) n (vs.map some) (ds.map fun d => some (.d d)) := ⟨pb.cut e0.hok (fun c hc => (hcell c hc).2), by rw [List.length_map, List.length_map, hds.len], fun i x e => by
    rw [List.getElem?_map] at e
    obtain ⟨d, e1, e2⟩ := Option.map_eq_some_iff.mp e
    cases e2
    obtain ⟨v, e3, hv⟩ := (hds.cut fx hp).get e1
    exact ⟨v, by rw [List.getElem?_map, e3]; rfl, hv⟩⟩
  have ht : te (vs.map some) (cut l H) (fun v H' => ∃ d F' n', Grow (cutF l F) (cut l H) n F' H' n' ∧ Has F' H' v d ∧ Kd d n') := re _ _ n _ _ Kd Xd _ hps hm (fun v d F' H' n' g hv hk => ⟨d, F', n', g, hv, hk⟩) fun cls od xd F' H' n' g hx' hk => ⟨xd, F', n', g, hx', hk⟩
  have fin : ∀ {er : Value} {s' : Shared}, L2.CX P w outer (cut l H) s E' er s' → L2.CX P w outer H s E er s' := fun {er s'} z => by
    obtain ⟨a, B, H', cls, d, ea, fl, hokB, ub, na, os, ag, xd, F', n', g, hx', hk⟩ := z
    obtain ⟨ub2, hok2, hn, hB⟩ := ub_lay fx e0.hok hfr ub hokB
    have hal : a ∉ l := fun z => by
      obtain ⟨o, e⟩ := hB a z
      rw [fl.2.1] at e
      cases e
    refine ⟨a, B, lay l H H', cls, d, ea, fl, hok2, ub2, by rw [lay_out hal]; exact na, os, ag, ?_⟩
    exact hx cls d xd _ _ n' (g.lay fx hF hn) (hx'.later (later_lay (n := n') hn) fun a fs e => by rw [lay_out (fun z => by rw [hn a z] at e; cases e)]; exact e) hk
  refine PySem.W.kla_codeExpr (wpAny_mono ((pe ()).run [] _ _ (cut l H) _ J ht) (fun v s' hq' => ?_) fun e s' z => wpAny_mono (show wpAny _ _ _ _ _ _ from z) (fun _ s'' z => fin z) fun _ s'' z => fin z)
  obtain ⟨v', H', J', rv, d, F', n', g, hv, hk⟩ := hq'
  obtain ⟨un2, hok2, hn⟩ := un_lay fx e0.hok hfr J'.base J'.hok
  exact ⟨v', lay l H H', J'.os, J'.bare, un2, hok2, rv, hq v' d _ _ n' (g.lay fx hF hn) (hv.later (later_lay (n := n') hn)) hk⟩
end DL


set_option maxRecDepth 100000
set_option maxHeartbeats 2000000
/-! DL9: lambdas made, rows of them handed on, called. Own work over HandS. -/
namespace DL
open PySem PySem.Spec PyProof.Rows L2

/-! ### work() -/
def cloW (P : Program) (w : World) (K : PySem.W.Frag) (mg : Str → Option Value) (base : Heap) (k : Nat) : D → Wm D
  | .clo true r ds => fun Kd Xd n => ∃ m : Wm D, CloSp P w K mg base k r ds m ∧ m Kd Xd n
  | _ => Wm.fail
section
variable {ι : Type} {X : ι → Cx} {W : WX} {P : Program} {w : World} {K : PySem.W.Frag} {mg : Str → Option Value} {base : Heap}
theorem DE.act {x : Str} {i k : Nat} {p1 p2 : Pos} (hP : ∀ j, (X j).prog = P ∧ (X j).w = w ∧ (X j).K = K ∧ (X j).mg = mg ∧ (X j).base = base) (hgd : ∀ j, (X j).A.guards = some []) (hr : ∀ j, Room k (X j).A) (tk : ∀ j, Takes (X j) W) (hv : ∀ j, PE (X j) (.Name x p1) (tVar i)) :
    DE X W (.Call (.Name x p1) [] [] p2) (fun ρ => do cloW P w K mg base k (← getD i ρ)) := by
  refine ⟨fun σ H Q => ∃ (f : Addr) (r : CloR), σ[i]? = some (some (.ref f)) ∧ H f = some (FixO f r.obj) ∧ ∀ (A : Around) (outer : List Env) (s : Shared), A.guards = some [] → Room k A → Env0 P w K mg base A outer s H → codeAny (model P w) A (.call (.ref f) ⟨[], []⟩) (CR (L2.CX P w) outer P w H s Q (WE W σ)) s, fun j => ⟨fun pins s σ H Q I h => ?_⟩, fun F H n σ ρ Kd Kx Q hs ht hq hx => ?_⟩
  · obtain ⟨f, r, h0, hf, hc⟩ := h
    obtain ⟨eP, ew, eK, em, eb⟩ := hP j
    subst eP ew eK em eb
    refine wpAny_Call_Name_kw (thn ((hv j).run pins s σ H (fun v H1 => v = .ref f ∧ H1 = H) I ⟨.ref f, h0, rfl, rfl⟩) fun u s1 ⟨v, H1, I1, r1, q1⟩ => ?_)
    obtain ⟨ev, eH⟩ := q1
    subst ev
    rw [eH] at I1
    obtain rfl : u = Value.ref f := r1
    refine PySem.W.callWith_F0 ⟨_, _, _, _, fixO_at I1.hok hf⟩ ?_
    refine wpAny_call (codeAny_mono (hc (X j).A (X j).stack s1 (hgd j) (hr j) I1.env0) fun res s' hq => ?_)
    match res, hq with
    | .error er, hq => exact passAt (tk j) σ pins H s1 er s' I1 hq
    | .ok (.ret u), hq => exact I1.after hq
  · obtain ⟨d, e1, ht1⟩ := getD_run (show getD i ρ (fun d n' => cloW P w K mg base k d Kd Kx n') Kx n from ht)
    obtain ⟨v, e2, hv'⟩ := hs.at_ _ _ e1
    have hv' : Has F H v d := hv'
    cases d with
    | clo b r ds =>
      cases b with
      | false => exact ht1.elim
      | true =>
        obtain ⟨m, sp, hm⟩ := ht1
        cases id hv' with
        | @clo1 f _ vs _ Ff hf _ _ _ _ _ =>
          exact ⟨f, r, e2, hf, fun A outer s hg hr e0 => sp A outer s H F n f Kd Kx Q _ hg hr e0 hs.pb hv' hm hq hx⟩
    | _ => exact ht1.elim
end

/-! ### a lambda made -/
/-- a lambda of this text, made by a def of these cells -/
structure LamR (cells : List (Str × Addr)) (ps : Arguments) (bd : Expr) (sc : Scope) (r : CloR) : Prop where
  qual : r.qual = qLam
  params : r.params = ps
  body : r.body = bd
  scope : r.scope = sc
  cl : r.cl = cloFrom cells sc.names []
def tLamN (P : Addr) (cells : List (Str × Addr)) (params : Arguments) (body : Expr) (scope : Scope) : TE := fun _ H Q => ∃ ps, H P = some (.tbl ps) ∧ TriplesOk ps.toList ∧ (∀ (pos : Pos) (cv : Value), codeAmong pos ps.toList = some cv → ∃ c, cv = .ref c ∧ H c = some (CodO c qLam)) ∧
  ∀ (r : CloR) (f : Addr) (H2 : Hp), LamR cells params body scope r → (H2 = H ∧ H r.code = some (CodO r.code qLam) ∧ (∃ pos, codeAmong pos ps.toList = some (.ref r.code)) ∨ H r.code = none ∧ ∃ (p : Pos), H2 = upd (upd H P (.tbl (ps ++ #[rawInt p.line, rawInt p.col, .ref r.code]))) r.code (CodO r.code qLam)) → H2 f = none → Q (.ref f) (upd H2 f (FixO f r.obj))
section
variable {X : Cx} {P c : Addr} {params : Arguments} {body : Expr} {scope : Scope} {pos : Pos}
theorem pe_lamN (TB : LamX.TabB X.base X.mg c P) (hcode : X.env.code = .ref c) (hq : X.env.qual ++ "<lambda>" = qLam) (hdef : defaultsOf params X.env = ([], [])) (hfree : ∀ y ∈ scope.names, y.2 = .free → ∃ c, X.env.cells.lookup y.1 = some c) :
    PE X (.Lambda params body scope pos) (tLamN P X.env.cells params body scope) := by
  refine ⟨fun pins s σ H Q I h => ?_⟩
  obtain ⟨ps, hP, ht, ha, h⟩ := h
  refine PySem.W.kla_eval hdef ?_
  rw [hq]
  have bP : s.heap.BuiltinsAt X.mg P := TB.bm.keeps I.bk
  have hP' : s.heap.get? P = some { cls := .none, data := .fields ps } := I.hok P _ hP
  have build : ∀ (r : CloR) (H2 : Hp) (h' : Heap) (tk : Nat), LamR X.env.cells params body scope r → (H2 = H ∧ H r.code = some (CodO r.code qLam) ∧ (∃ pos, codeAmong pos ps.toList = some (.ref r.code)) ∨ H r.code = none ∧ ∃ (p : Pos), H2 = upd (upd H P (.tbl (ps ++ #[rawInt p.line, rawInt p.col, .ref r.code]))) r.code (CodO r.code qLam)) →
      Inv X pins σ H2 { s with heap := h', toks := tk } → EP X pins σ Q (.ref h'.objs.size) { s with heap := h'.push r.obj, toks := tk } := fun r H2 h' tk lr hc I2 => by
    have hn : H2 h'.objs.size = none := I2.hok.fresh (Nat.le_refl _)
    have I3 : Inv X pins σ (upd H2 h'.objs.size (FixO h'.objs.size r.obj)) { s with heap := h'.push r.obj, toks := tk } :=
      I2.laid (t' := tk) (a := h'.objs.size) (o := FixO h'.objs.size r.obj) (h' := h'.push r.obj) (fun _ _ e => Heap.get?_push_of_some _ e) (Nat.le_refl _) (fixO_ok (Heap.get?_push_size _ rfl))
    exact ⟨.ref h'.objs.size, _, I3, rfl, h r h'.objs.size H2 lr hc hn⟩
  cases hc : codeAmong pos ps.toList with
  | none =>
    refine PySem.W.kla_makeFunction (mg := X.mg) (c := c) (P := P) (ps := ps) (closure_ok hfree) I.ok.glob (I.mod.glob.keeps I.bk) hcode (TB.code.keeps I.bk) hP' ht hc TB.gP bP fun c' ctv h' tk hx hge hlt hrec htb => ?_
    obtain ⟨c2, oc, vs, t, e2, hoc, hd, hv⟩ := hrec
    cases e2
    have nC : H c' = none := I.hok.fresh hge
    have I1 : Inv X pins σ (upd (upd H P (.tbl (ps ++ #[rawInt pos.line, rawInt pos.col, .ref c']))) c' (CodO c' qLam)) { s with heap := h', toks := tk } := LamX.inv_table (t' := tk) (more := #[rawInt pos.line, rawInt pos.col, .ref c']) (h' := h') I hP (fun b o hb e => hx b o hb e) htb hge ⟨oc, vs, t, hoc, hd, hv⟩
    exact build ⟨qLam, params, body, scope, cloFrom X.env.cells scope.names [], (X.mg "__name__").getD .none, c', ctv⟩ _ h' tk ⟨rfl, rfl, rfl, rfl, rfl⟩ (.inr ⟨nC, pos, rfl⟩) I1
  | some cv =>
    obtain ⟨c', e, hco⟩ := ha pos cv hc
    subst e
    refine PySem.W.kla_makeFunctionHit (mg := X.mg) (c := c) (P := P) (ps := ps) (closure_ok hfree) I.ok.glob (I.mod.glob.keeps I.bk) hcode (TB.code.keeps I.bk) hP' ht hc bP fun ctv h' tk hx hsz => ?_
    have I1 : Inv X pins σ H { s with heap := h', toks := tk } := I.kept fun b o e => hx b o e
    exact build ⟨qLam, params, body, scope, cloFrom X.env.cells scope.names [], (X.mg "__name__").getD .none, c', ctv⟩ _ h' tk ⟨rfl, rfl, rfl, rfl, rfl⟩ (.inl ⟨rfl, hco, pos, hc⟩) I1
end
/-- by data: some lambda of this text -/
def dLam (cells : List (Str × Addr)) (params : Arguments) (body : Expr) (scope : Scope) : TD D := fun _ Kd _ n => ∀ r : CloR, LamR cells params body scope r → Kd (.clo false r []) n
/-- the table of the law's lambdas is tracked -/
def TabAt (P : Addr) (H : Hp) : Prop := ∃ ps, H P = some (.tbl ps)
theorem run_lamN {W : WX} {P : Addr} {cells : List (Str × Addr)} {params : Arguments} {body : Expr} {scope : Scope} {F : Addr → Prop} {H : Hp} {n : Nat} {σ : L2.St} {ρ : Env'} {Kd : D → Nat → Prop} {Kx : XD → Nat → Prop} {Q : VK} (ht : TabAt P H) (hs : HasS F H n σ ρ) (h : dLam cells params body scope ρ Kd Kx n)
    (hq : ∀ v d F' H' n', Grow F H n F' H' n' → Has F' H' v d → Kd d n' → Q v H') : tLamN P cells params body scope σ H Q := by
  obtain ⟨ps, hP⟩ := ht
  have tb := hs.pb.tb P ps hP
  refine ⟨ps, hP, tb.tr, fun pos cv e => let ⟨c, e1, _, e2⟩ := tb.at_ pos cv e; ⟨c, e1, e2⟩, fun r f H2 lr hc hf => ?_⟩
  rcases hc with ⟨rfl, hco, pos, hcd⟩ | ⟨nC, p, rfl⟩
  · obtain ⟨c, e1, Fc, e2⟩ := tb.at_ pos _ hcd
    cases e1
    have g : Grow F H2 n (plusF F f) (upd H2 f (FixO f r.obj)) n := .laid hs.pb hf .ext
    refine hq _ _ _ _ n g (.clo0 plusF_same upd_same (.inl Fc) ?_) (h r lr)
    rw [upd_ne (ne_of_none hco hf), hco, lr.qual]
  · have hPc : P ≠ r.code := ne_of_none hP nC
    have hPf : f ≠ P := fun e => by rw [e, upd_ne hPc, upd_same] at hf; cases hf
    have hfc : f ≠ r.code := fun e => by rw [e, upd_same] at hf; cases hf
    have hf0 : H f = none := by rw [upd_ne hfc, upd_ne hPf] at hf; exact hf
    have at_ : ∀ b, b ≠ P → b ≠ r.code → b ≠ f → upd (upd (upd H P (.tbl (ps ++ #[rawInt p.line, rawInt p.col, .ref r.code]))) r.code (CodO r.code qLam)) f (FixO f r.obj) b = H b := fun b h1 h2 h3 => by rw [upd_ne h3, upd_ne h2, upd_ne h1]
    have atC : upd (upd (upd H P (.tbl (ps ++ #[rawInt p.line, rawInt p.col, .ref r.code]))) r.code (CodO r.code qLam)) f (FixO f r.obj) r.code = some (CodO r.code qLam) := by rw [upd_ne (Ne.symm hfc), upd_same]
    have atP : upd (upd (upd H P (.tbl (ps ++ #[rawInt p.line, rawInt p.col, .ref r.code]))) r.code (CodO r.code qLam)) f (FixO f r.obj) P = some (.tbl (ps ++ #[rawInt p.line, rawInt p.col, .ref r.code])) := by rw [upd_ne (Ne.symm hPf), upd_ne hPc, upd_same]
    have nP : ∀ {b : Addr} {u : HO}, H b = some u → Hard u → b ≠ P := fun e hu z => by
      rw [z, hP] at e
      exact hu.tbl ps (Option.some.inj e).symm
    have sub : ∀ {b : Addr} {u : HO}, H b = some u → Hard u → upd (upd (upd H P (.tbl (ps ++ #[rawInt p.line, rawInt p.col, .ref r.code]))) r.code (CodO r.code qLam)) f (FixO f r.obj) b = some u := fun {b u} e hu => by
      rw [at_ b (nP e hu) (ne_of_none e nC) (ne_of_none e hf0)]
      exact e
    refine hq _ _ (fun b => F b ∨ b = f ∨ b = r.code) _ n ⟨fun b o e => ?_, fun b fb => .inl fb, fun b fb => ?_, ⟨fun b c q e => ?_, fun b fb => ?_, fun Q qs e => ?_⟩, Nat.le_refl _⟩ (.clo0 (.inr (.inl rfl)) upd_same (.inr (.inr rfl)) (by rw [atC, lr.qual])) (h r lr)
    · by_cases hb : b = P
      · subst hb
        rw [hP] at e
        cases e
        exact .inr (.inr ⟨ps, _, rfl, atP⟩)
      · exact .inl (by rw [at_ b hb (ne_of_none e nC) (ne_of_none e hf0)]; exact e)
    · rcases fb with fb | rfl | rfl
      · exact .inl fb
      · exact .inr hf0
      · exact .inr nC
    · by_cases h1 : b = f
      · subst h1; rw [upd_same] at e; cases e
      · by_cases h2 : b = r.code
        · subst h2; rw [atC] at e; cases e
        · by_cases h3 : b = P
          · subst h3; rw [atP] at e; cases e
          · rw [at_ b h3 h2 h1] at e
            exact hs.pb.ct b c q e
    · by_cases h1 : b = f
      · subst h1; exact ⟨_, upd_same⟩
      · by_cases h2 : b = r.code
        · subst h2; exact ⟨_, atC⟩
        · by_cases h3 : b = P
          · subst h3; exact ⟨_, atP⟩
          · rw [at_ b h3 h2 h1]
            exact hs.pb.dom b (fb.resolve_right fun z => z.elim h1 h2)
    · have old : ∀ qs, H Q = some (.tbl qs) → TblOk (fun b => F b ∨ b = f ∨ b = r.code) (upd (upd (upd H P (.tbl (ps ++ #[rawInt p.line, rawInt p.col, .ref r.code]))) r.code (CodO r.code qLam)) f (FixO f r.obj)) qs := fun qs e => (hs.pb.tb Q qs e).mono (fun _ => .inl) fun c _ q => sub q .ext
      by_cases h1 : Q = f
      · subst h1; rw [upd_same] at e; cases e
      · by_cases h2 : Q = r.code
        · subst h2; rw [atC] at e; cases e
        · by_cases h3 : Q = P
          · subst h3
            rw [atP] at e
            cases e
            obtain ⟨t1, t2⟩ := old ps hP
            have eL : (ps ++ #[rawInt p.line, rawInt p.col, .ref r.code]).toList = ps.toList ++ [rawInt p.line, rawInt p.col, .ref r.code] := by simp
            refine ⟨by rw [eL]; exact PySem.TriplesOk_snoc _ _ _ _ t1, fun p' cv hcv => ?_⟩
            rw [eL] at hcv
            rcases LamX.among_app _ t1 hcv with z | z
            · exact t2 p' cv z
            · exact ⟨r.code, z, .inr (.inr rfl), atC⟩
          · rw [at_ Q h3 h2 h1] at e
            exact old qs e

def tabD (P : Addr) (cells : List (Str × Addr)) (params : Arguments) (body : Expr) (scope : Scope) : D → TD D
  | .scr _ _ tabs => fun ρ => do Wm.need (P ∈ tabs); dLam cells params body scope ρ
  | _ => fun _ => Wm.fail
section
variable {ι : Type} {X : ι → Cx} {W : WX}
/-- lambda: body, in the law; slot i: the script -/
theorem DE.lam {P c : Addr} {i : Nat} {params : Arguments} {body : Expr} {scope : Scope} {pos : Pos} {cells : List (Str × Addr)} (hcl : ∀ j, (X j).env.cells = cells) (TB : ∀ j, LamX.TabB (X j).base (X j).mg c P) (hcode : ∀ j, (X j).env.code = .ref c) (hq : ∀ j, (X j).env.qual ++ "<lambda>" = qLam) (hdef : ∀ j, defaultsOf params (X j).env = ([], []))
    (hfree : ∀ j, ∀ y ∈ scope.names, y.2 = .free → ∃ c, (X j).env.cells.lookup y.1 = some c) : DE X W (.Lambda params body scope pos) (fun ρ => do let s ← getD i ρ; tabD P cells params body scope s ρ) := by
  refine ⟨tLamN P cells params body scope, fun j => by rw [← hcl j]; exact pe_lamN (TB j) (hcode j) (hq j) (hdef j) (hfree j), fun F H n σ ρ Kd Kx Q hs ht hq hx => ?_⟩
  obtain ⟨d, e1, ht1⟩ := getD_run (show getD i ρ (fun d n' => tabD P cells params body scope d ρ Kd Kx n') Kx n from ht)
  obtain ⟨v, e2, hv⟩ := hs.at_ _ _ e1
  have hv : Has F H v d := hv
  cases hv <;> try exact ht1.elim
  rename_i hT
  obtain ⟨hm, hk⟩ := ht1
  exact run_lamN (W := W) (hT P hm).2 hs hk hq
end

/-! ### rows of lambdas handed to a def -/
mutual
/-- the lambdas' captured values told -/
def tellD (cap : Str → D) : D → D
  | .clo _ r _ => .clo true r (r.cl.map fun p => cap p.1)
  | .tup ds => .tup (tellL cap ds)
  | .lst ds => .lst (tellL cap ds)
  | .non => .non
  | .bl b => .bl b
  | .int i => .int i
  | .str x => .str x
  | .dic ks ds => .dic ks ds
  | .obj C ns ds => .obj C ns ds
  | .exc C ns ds => .exc C ns ds
  | .pen => .pen
  | .fnA a => .fnA a
  | .scr K ns t => .scr K ns t
def tellL (cap : Str → D) : List D → List D
  | [] => []
  | d :: ds => tellD cap d :: tellL cap ds
end
mutual
/-- each lambda's cells are among the told ones; dicts and objects bear none -/
def tellOk (ok : CloR → Prop) : D → Prop
  | .clo _ r _ => ok r
  | .tup ds => tellOkL ok ds
  | .lst ds => tellOkL ok ds
  | .non => True
  | .bl _ => True
  | .int _ => True
  | .str _ => True
  | .dic ks ds => plainD (.dic ks ds) = true
  | .obj C ns ds => plainD (.obj C ns ds) = true
  | .exc _ _ _ => False
  | .pen => False
  | .fnA _ => True
  | .scr _ _ _ => False
def tellOkL (ok : CloR → Prop) : List D → Prop
  | [] => True
  | d :: ds => tellOk ok d ∧ tellOkL ok ds
end
section
variable {l : List Addr} {F : Addr → Prop} {H f : Hp}
mutual
theorem Has.lay (hn : ∀ c ∈ l, H c = none) : ∀ {v : V} {d : D}, Has F H v d → plainD d = true → Has (layF l F) (DL.lay l f H) v d
  | _, _, .non, _ => .non
  | _, _, .bl b, _ => .bl b
  | _, _, .int i, _ => .int i
  | _, _, .str x, _ => .str x
  | _, _, .tup (a := a) Fa h k, e => .tup (.inl Fa) ((lay_out fun z => by rw [hn a z] at h; cases h).trans h) (HasL.lay hn k (by unfold plainD at e; exact e))
  | _, _, .lst (a := a) Fa h k, e => .lst (.inl Fa) ((lay_out fun z => by rw [hn a z] at h; cases h).trans h) (HasL.lay hn k (by unfold plainD at e; exact e))
  | _, _, .dic (a := a) Fa h q z k, e => .dic (.inl Fa) ((lay_out fun z => by rw [hn a z] at h; cases h).trans h) q z (HasL.lay hn k (by unfold plainD at e; exact e))
  | _, _, .obj (a := a) Fa h z k, e => .obj (.inl Fa) ((lay_out fun z => by rw [hn a z] at h; cases h).trans h) z (HasL.lay hn k (by unfold plainD at e; exact e))
  | _, _, .pen _ _ _ _ _ _, e => by unfold plainD at e; cases e
  | _, _, .clo0 _ _ _ _, e => by unfold plainD at e; cases e
  | _, _, .clo1 _ _ _ _ _ _ _, e => by unfold plainD at e; cases e
  | _, _, .fnA a, _ => .fnA a
  | _, _, .exc _ _ _ _ _ _, e => by unfold plainD at e; cases e
  | _, _, .exc0 _ _, e => by unfold plainD at e; cases e
  | _, _, .scr _ _, e => by unfold plainD at e; cases e
theorem HasL.lay (hn : ∀ c ∈ l, H c = none) : ∀ {vs : List V} {ds : List D}, HasL F H vs ds → plainL ds = true → HasL (layF l F) (DL.lay l f H) vs ds
  | _, _, .nil, _ => .nil
  | _, _, .cons h k, e => by
    unfold plainL at e
    obtain ⟨e1, e2⟩ := Bool.and_eq_true_iff.mp e
    exact .cons (Has.lay hn h e1) (HasL.lay hn k e2)
end
/-- what is known of a told cell -/
def Told (l : List Addr) (F : Addr → Prop) (H f : Hp) (cap : Str → D) (p : Str × Addr) : Prop := p.2 ∈ l ∧ ∃ v u o, RelV v u ∧ o.data = .cell (some u) ∧ f p.2 = some (FixO p.2 o) ∧ Has (layF l F) (DL.lay l f H) v (cap p.1)
theorem told_all {cap : Str → D} : ∀ {cl : List (Str × Addr)}, (∀ p ∈ cl, Told l F H f cap p) → ∃ vs, vs.length = cl.length ∧ (∀ p ∈ cl.zip vs, (layF l F) p.1.2 ∧ ∃ u o, RelV p.2 u ∧ o.data = .cell (some u) ∧ DL.lay l f H p.1.2 = some (FixO p.1.2 o)) ∧ HasL (layF l F) (DL.lay l f H) vs (cl.map fun p => cap p.1)
  | [], _ => ⟨[], rfl, fun p hp => by simp at hp, .nil⟩
  | q :: cl, h => by
    obtain ⟨vs, h1, h2, h3⟩ := told_all (cl := cl) fun p hp => h p (List.mem_cons_of_mem _ hp)
    obtain ⟨hl, v, u, o, ru, dd, e, hv⟩ := h q List.mem_cons_self
    refine ⟨v :: vs, by simp [h1], fun p hp => ?_, .cons hv h3⟩
    rw [List.zip_cons_cons] at hp
    rcases List.mem_cons.mp hp with rfl | hp
    · exact ⟨.inr hl, u, o, ru, dd, by rw [lay_in hl]; exact e⟩
    · exact h2 p hp
mutual
theorem Has.tell {cap : Str → D} (hn : ∀ c ∈ l, H c = none) : ∀ {v : V} {d : D}, Has F H v d → tellOk (fun r => ∀ p ∈ r.cl, Told l F H f cap p) d → Has (layF l F) (DL.lay l f H) v (tellD cap d)
  | _, _, .non, _ => by unfold tellD; exact .non
  | _, _, .bl b, _ => by unfold tellD; exact .bl b
  | _, _, .int i, _ => by unfold tellD; exact .int i
  | _, _, .str x, _ => by unfold tellD; exact .str x
  | _, _, .tup (a := a) Fa h k, e => by unfold tellD; unfold tellOk at e; exact .tup (.inl Fa) ((lay_out fun z => by rw [hn a z] at h; cases h).trans h) (HasL.tell hn k e)
  | _, _, .lst (a := a) Fa h k, e => by unfold tellD; unfold tellOk at e; exact .lst (.inl Fa) ((lay_out fun z => by rw [hn a z] at h; cases h).trans h) (HasL.tell hn k e)
  | _, _, .dic Fa h q z k, e => by unfold tellD; unfold tellOk at e; exact (Has.dic Fa h q z k).lay hn e
  | _, _, .obj Fa h z k, e => by unfold tellD; unfold tellOk at e; exact (Has.obj Fa h z k).lay hn e
  | _, _, .pen _ _ _ _ _ _, e => by unfold tellOk at e; exact e.elim
  | _, _, .clo0 (a := a) (r := r) Fa h Fc hc, e => by
    unfold tellOk at e
    unfold tellD
    obtain ⟨vs, h1, h2, h3⟩ := told_all e
    exact .clo1 (.inl Fa) ((lay_out fun z => by rw [hn a z] at h; cases h).trans h) (.inl Fc) ((lay_out fun z => by rw [hn _ z] at hc; cases hc).trans hc) h1 h2 h3
  | _, _, .clo1 (a := a) (r := r) Fa h Fc hc _ _ _, e => by
    unfold tellOk at e
    unfold tellD
    obtain ⟨vs, h1, h2, h3⟩ := told_all e
    exact .clo1 (.inl Fa) ((lay_out fun z => by rw [hn a z] at h; cases h).trans h) (.inl Fc) ((lay_out fun z => by rw [hn _ z] at hc; cases hc).trans hc) h1 h2 h3
  | _, _, .fnA a, _ => by unfold tellD; exact .fnA a
  | _, _, .exc _ _ _ _ _ _, e => by unfold tellOk at e; exact e.elim
  | _, _, .exc0 _ _, e => by unfold tellOk at e; exact e.elim
  | _, _, .scr _ _, e => by unfold tellOk at e; exact e.elim
theorem HasL.tell {cap : Str → D} (hn : ∀ c ∈ l, H c = none) : ∀ {vs : List V} {ds : List D}, HasL F H vs ds → tellOkL (fun r => ∀ p ∈ r.cl, Told l F H f cap p) ds → HasL (layF l F) (DL.lay l f H) vs (tellL cap ds)
  | _, _, .nil, _ => by unfold tellL; exact .nil
  | _, _, .cons h k, e => by
    unfold tellOkL at e
    unfold tellL
    exact .cons (Has.tell hn h e.1) (HasL.tell hn k e.2)
end
end

theorem PenB.lay {l : List Addr} {F : Addr → Prop} {H f : Hp} {n : Nat} (pb : PenB F H n) (fx : Fixed l f) (hn : ∀ c ∈ l, H c = none) : PenB (layF l F) (DL.lay l f H) n where
  ct := fun a c p e => by
    by_cases ha : a ∈ l
    · rw [lay_in ha] at e; exact absurd ha (fx.out e fun _ _ => fix_dK)
    · rw [lay_out ha] at e; exact pb.ct a c p e
  dom := fun a h => by
    by_cases ha : a ∈ l
    · rw [lay_in ha]
      obtain ⟨o, e⟩ := fx a ha
      exact ⟨_, e⟩
    · rw [lay_out ha]; exact pb.dom a (h.resolve_right ha)
  tb := fun Q ps e => by
    by_cases ha : Q ∈ l
    · rw [lay_in ha] at e; exact absurd ha (fx.out e fun _ _ => fix_tbl)
    · rw [lay_out ha] at e
      exact (pb.tb Q ps e).mono (fun _ => .inl) fun c _ q => (lay_out fun z => by rw [hn c z] at q; cases q).trans q
theorem PenB.cutC {l : List Addr} {F : Addr → Prop} {H : Hp} {n : Nat} (pb : PenB F H n) (hc : ∀ c ∈ l, H c ≠ some (CodO c qLam)) : PenB (cutF l F) (DL.cut l H) n where
  ct := fun a c p e => by
    by_cases ha : a ∈ l
    · rw [cut_in ha] at e; cases e
    · rw [cut_out ha] at e; exact pb.ct a c p e
  dom := fun a h => by
    rw [cut_out h.2]
    exact pb.dom a h.1
  tb := fun Q ps e => by
    by_cases ha : Q ∈ l
    · rw [cut_in ha] at e; cases e
    · rw [cut_out ha] at e
      obtain ⟨t1, t2⟩ := pb.tb Q ps e
      exact ⟨t1, fun pos cv z => let ⟨c, e1, h, e2⟩ := t2 pos cv z; have hcl : c ∉ l := fun z => hc c z e2; ⟨c, e1, ⟨h, hcl⟩, (cut_out hcl).trans e2⟩⟩
theorem Grow.cut {l : List Addr} {F F' : Addr → Prop} {H H' f : Hp} {n n' : Nat} (pb : PenB F H n) (hn : ∀ c ∈ l, H c = none) (fx : Fixed l f) (hc : ∀ c ∈ l, f c ≠ some (CodO c qLam)) (g : Grow (layF l F) (DL.lay l f H) n F' H' n') : Grow F H n (cutF l F') (DL.cut l H') n' ∧ ∀ c ∈ l, H' c = f c := by
  have hk : ∀ c ∈ l, H' c = f c := fun c hcl => by
    obtain ⟨o, e⟩ := fx c hcl
    rw [e]
    exact g.keepL ((lay_in hcl).trans e) .ext
  have off : ∀ {b : Addr} {u : HO}, H b = some u → b ∉ l := fun q z => by rw [hn _ z] at q; cases q
  refine ⟨⟨fun a o e => ?_, fun a h => ?_, fun a h => ?_, g.pb.cutC fun c hcl e => hc c hcl (by rw [← hk c hcl]; exact e), g.le⟩, hk⟩
  · rw [cut_out (off e)]
    exact g.keep a o ((lay_out (off e)).trans e)
  · obtain ⟨o, e⟩ := pb.dom a h
    exact ⟨g.sub a (.inl h), off e⟩
  · rcases g.new a h.1 with z | z
    · exact .inl (z.resolve_right h.2)
    · rw [lay_out h.2] at z; exact .inr z

/-- f(.., rows of lambdas ..) in the def whose cells they bear; idx: the slots of the captured names -/
def tTell (sp : Sp) (cells : List (Str × Addr)) (caps : List Str) (idx : Str → Nat) (ta : TA) : TE := fun σ H Q => ta σ H fun vs H1 => (∀ y ∈ caps, ∃ v, σ[idx y]? = some (some v)) ∧
  ∀ f : Hp, Fixed (caps.filterMap (fun y => cells.lookup y)) f → (∀ c ∈ caps.filterMap (fun y => cells.lookup y), H1 c = none ∧ f c ≠ some (CodO c qLam)) → (∀ y ∈ caps, ∃ c v u o, cells.lookup y = some c ∧ σ[idx y]? = some (some v) ∧ RelV v u ∧ o.data = .cell (some u) ∧ f c = some (FixO c o)) →
    sp vs (lay (caps.filterMap (fun y => cells.lookup y)) f H1) (fun v H2 => (∀ c ∈ caps.filterMap (fun y => cells.lookup y), H2 c = f c) ∧ Q v (cut (caps.filterMap (fun y => cells.lookup y)) H2)) (fun _ _ _ => False)
section
variable {X : Cx} {k : Nat} {f : Addr} {fd : FuncData} {ps : List Str} {sp : Sp} {x : Str} {p pos : Pos} {e : Expr} {es : List Expr} {ta : TA} {caps : List Str} {idx : Str → Nat}
theorem pe_tell (F : FnG X.prog X.w X.K X.mg X.base k f fd ps sp) (hgd : X.A.guards = some []) (hr : Room k X.A) (hg : Gl X x) (hm : X.mg x = some (.ref f)) (hk : PySem.W.keepIn X.K (.ref f) = true) (hb : Binds X.K fd ps [])
    (hfn : ∀ y ∈ caps, X.fn y = true) (hcap : ∀ y ∈ caps, X.env.scope.names.lookup y = some .cell ∧ X.N[idx y]? = some y) (ha : PA X (e :: es) ta) (hdb : (x == ("__debug__" : Str)) = false := by decide) (he : starEach (e :: es) X.env = (false, eval e X.env) :: starEach es X.env := by rfl) (hpl : (backTo pos (starEach es X.env)).any (·.1) = false := by rfl) :
    PE X (.Call (.Name x p) (e :: es) [] pos) (tTell sp X.env.cells caps idx ta) := by
  refine ⟨fun pins s σ H Q I h => wpAny_Call_Name_kw (ld_glob I hg hm ?_ hdb)⟩
  refine PySem.W.callWith_K (h₀ := X.base) I.ok.mod.kin hk (thn (ha.run pos pins s σ H _ I h) ?_) he hpl
  rintro us s1 ⟨vs, H1, I1, r, hset, q⟩
  refine ⟨I1.kIn, ?_⟩
  obtain ⟨l, hl⟩ : ∃ l, l = caps.filterMap (fun y => X.env.cells.lookup y) := ⟨_, rfl⟩
  rw [← hl] at q
  have ofl : ∀ c ∈ l, ∃ y ∈ caps, X.env.cells.lookup y = some c := fun c hc => by
    rw [hl] at hc
    obtain ⟨y, hy, e⟩ := List.mem_filterMap.mp hc
    exact ⟨y, hy, e⟩
  have cell : ∀ y ∈ caps, ∃ c v u o, X.env.cells.lookup y = some c ∧ σ[idx y]? = some (some v) ∧ RelV v u ∧ o.data = .cell (some u) ∧ s1.heap.get? c = some o := fun y hy => by
    obtain ⟨v, hv⟩ := hset y hy
    obtain ⟨hsc, hN⟩ := hcap y hy
    obtain ⟨m, _, hlk⟩ := I1.loc
    obtain ⟨u, ru, ⟨kl, _⟩ | ⟨_, c, e, o, ho, hd⟩⟩ := hlk _ y v hN hv (.inr (.inl hsc))
    · have kl : X.env.scope.names.lookup y = some .local := kl
      rw [hsc] at kl
      cases kl
    · exact ⟨c, v, u, o, e, hv, ru, hd, ho⟩
  have celll : ∀ c ∈ l, ∃ u o, o.data = .cell (some u) ∧ s1.heap.get? c = some o := fun c hc => by
    obtain ⟨y, hy, e⟩ := ofl c hc
    obtain ⟨c2, v, u, o, e2, _, _, hd, ho⟩ := cell y hy
    rw [e] at e2
    cases e2
    exact ⟨u, o, hd, ho⟩
  let ff : Hp := fun a => (s1.heap.get? a).map (FixO a)
  have fe : ∀ {c : Addr} {o : Obj}, s1.heap.get? c = some o → ff c = some (FixO c o) := fun {c o} e => by
    show (s1.heap.get? c).map (FixO c) = _
    rw [e]; rfl
  have fx : Fixed l ff := fun c hc => let ⟨_, o, _, ho⟩ := celll c hc; ⟨o, fe ho⟩
  have hn : ∀ c ∈ l, H1 c = none := fun c hc => let ⟨y, _, e⟩ := ofl c hc; I1.freeC y c e
  have hgt : ∀ c ∈ l, ∀ o, ff c = some (FixO c o) → s1.heap.get? c = some o := fun c hc o e => by
    obtain ⟨u, o2, hd, ho⟩ := celll c hc
    have e2 := fe ho
    rw [e] at e2
    have e3 : (fun h : Heap => h.get? c = some o) = fun h : Heap => h.get? c = some o2 := HO.ext.inj (Option.some.inj e2)
    have e4 := congrFun e3 s1.heap
    rw [e4]
    exact ho
  have hcod : ∀ c ∈ l, ff c ≠ some (CodO c qLam) := fun c hc e => by
    obtain ⟨u, o2, hd, ho⟩ := celll c hc
    rw [fe ho] at e
    have e3 : (fun h : Heap => h.get? c = some o2) = fun h : Heap => ∃ (oc : Obj) (vs : Array Value) (t : Tok), h.get? c = some oc ∧ oc.data = .fields vs ∧ vs[1]? = some (.str qLam t) := HO.ext.inj (Option.some.inj e)
    have e4 : (s1.heap.get? c = some o2) = (∃ (oc : Obj) (vs : Array Value) (t : Tok), s1.heap.get? c = some oc ∧ oc.data = .fields vs ∧ vs[1]? = some (.str qLam t)) := congrFun e3 s1.heap
    rw [e4] at ho
    obtain ⟨oc, vs, t, b1, b2, _⟩ := id ho
    rw [← e4] at ho
    rw [ho] at b1
    cases b1
    rw [hd] at b2
    cases b2
  have big : ∀ c ∈ l, X.s_0.heap.objs.size ≤ c := fun c hc => let ⟨y, hy, e⟩ := ofl c hc; I1.ok.cab y c (hfn y hy) e
  have nfr : ∀ c ∈ l, c ∉ frs X.stack := fun c hc z => by
    obtain ⟨y, _, e⟩ := ofl c hc
    rcases List.mem_cons.mp (I1.stkSub _ z) with z | z
    · exact I1.cne y c e z
    · obtain ⟨_, o, ho, _⟩ := I1.ok.funs.mem z
      exact absurd (Nat.lt_of_lt_of_le (Heap.lt_size ho) (big c hc)) (Nat.lt_irrefl _)
  have e0 := I1.env0
  have e1 : Env0 X.prog X.w X.K X.mg X.base X.A X.stack s1 (lay l ff H1) := ⟨e0.frames, e0.mod, fun b o e => by
      have hb : b ∉ l := fun z => absurd (Nat.lt_of_lt_of_le (Heap.lt_size e) (Nat.le_trans I1.ok.bsz (big b z))) (Nat.lt_irrefl _)
      rw [lay_out hb]
      exact e0.bs b o e, e0.bsz, e0.funs, fun b hb => by
      rw [lay_out (fun z => nfr b z hb)]
      exact e0.frf b hb, hok_lay fx hn hgt e0.hok, e0.bare⟩
  have hsp := q ff fx (fun c hc => ⟨hn c hc, hcod c hc⟩) fun y hy => let ⟨c, v, u, o, a, b, d, g, hh⟩ := cell y hy; ⟨c, v, u, o, a, b, d, g, fe hh⟩
  have hlen : us.length = ps.length := by rw [← r.length]; exact F.len _ _ _ _ hsp
  have bt := hb s1 us I1.kIn (by rw [List.append_nil]; exact hlen)
  rw [List.append_nil] at bt
  refine wpAny_call (codeAny_mono (F.run X.A X.stack s1 _ ⟨us, []⟩ us vs _ _ hgd hr e1 bt r hsp) fun res s' hq => ?_)
  match res, hq with
  | .error er, hq =>
    obtain ⟨_, _, _, _, _, _, _, _, _, _, _, _, z⟩ := hq
    exact z.elim
  | .ok (.ret u), hq =>
    obtain ⟨v, H2, os, bare, un, hok, rv, hkeep, q2⟩ := hq
    obtain ⟨un2, hok2⟩ := un_cut hn fx hgt un hok hkeep
    exact I1.after ⟨v, cut l H2, os, bare, un2, hok2, rv, q2⟩
end
/-- by data -/
def tellW (w : List D → Wm D) (cells : List (Str × Addr)) (caps : List Str) (idx : Str → Nat) (ds : List D) : TD D := fun ρ Kd _ n => ∃ cap : Str → D, (∀ y ∈ caps, ρ[idx y]? = some (some (.d (cap y))) ∧ plainD (cap y) = true) ∧
  tellOkL (fun r => ∀ p ∈ r.cl, p.1 ∈ caps ∧ cells.lookup p.1 = some p.2) ds ∧ w (tellL cap ds) (fun d n' => plainD d = true ∧ Kd d n') XFalse n
mutual
theorem tellOk.imp {p q : CloR → Prop} (h : ∀ r, p r → q r) : ∀ {d : D}, tellOk p d → tellOk q d
  | .clo _ r _, e => by unfold tellOk at e ⊢; exact h r e
  | .tup ds, e => by unfold tellOk at e ⊢; exact tellOkL.imp h e
  | .lst ds, e => by unfold tellOk at e ⊢; exact tellOkL.imp h e
  | .non, e => by unfold tellOk; trivial
  | .bl _, e => by unfold tellOk; trivial
  | .int _, e => by unfold tellOk; trivial
  | .str _, e => by unfold tellOk; trivial
  | .dic _ _, e => by unfold tellOk at e ⊢; exact e
  | .obj _ _ _, e => by unfold tellOk at e ⊢; exact e
  | .exc _ _ _, e => by unfold tellOk at e; exact e.elim
  | .pen, e => by unfold tellOk at e; exact e.elim
  | .fnA _, _ => by unfold tellOk; trivial
  | .scr _ _ _, e => by unfold tellOk at e; exact e.elim
theorem tellOkL.imp {p q : CloR → Prop} (h : ∀ r, p r → q r) : ∀ {ds : List D}, tellOkL p ds → tellOkL q ds
  | [], _ => by unfold tellOkL; trivial
  | d :: ds, e => by unfold tellOkL at e ⊢; exact ⟨tellOk.imp h e.1, tellOkL.imp h e.2⟩
end
section
variable {ι : Type} {X : ι → Cx} {W : WX}
theorem DE.tell {x : Str} {p pos : Pos} {e : Expr} {es : List Expr} {t : TD (List D)} {k f fd} {ps : List Str} {w : List D → Wm D} {m : Nat} {cells : List (Str × Addr)} {caps : List Str} {idx : Str → Nat} (hcl : ∀ i, (X i).env.cells = cells) (F : ∀ i, FnG (X i).prog (X i).w (X i).K (X i).mg (X i).base k f fd ps (spD m w)) (hgd : ∀ i, (X i).A.guards = some []) (hr : ∀ i, Room k (X i).A)
    (hg : ∀ i, Gl (X i) x) (hm : ∀ i, (X i).mg x = some (.ref f)) (hk : ∀ i, PySem.W.keepIn (X i).K (.ref f) = true) (hb : ∀ i, Binds (X i).K fd ps []) (hfn : ∀ i, ∀ y ∈ caps, (X i).fn y = true) (hcap : ∀ i, ∀ y ∈ caps, (X i).env.scope.names.lookup y = some .cell ∧ (X i).N[idx y]? = some y)
    (h : DA X W (e :: es) t) (hdb : (x == ("__debug__" : Str)) = false := by decide)
    (he : ∀ i, starEach (e :: es) (X i).env = (false, eval e (X i).env) :: starEach es (X i).env := by intro _; rfl) (hpl : ∀ i, (backTo pos (starEach es (X i).env)).any (·.1) = false := by intro _; rfl) :
    DE X W (.Call (.Name x p) (e :: es) [] pos) (fun ρ => do let ds ← t ρ; Wm.need (ds.length = m); tellW w cells caps idx ds ρ) := by
  obtain ⟨ta, p1, r1⟩ := h
  refine ⟨tTell (spD m w) cells caps idx ta, fun i => by rw [← hcl i]; exact pe_tell (F i) (hgd i) (hr i) (hg i) (hm i) (hk i) (hb i) (hfn i) (hcap i) (p1 i) hdb (he i) (hpl i), fun F H n σ ρ K Kx Q hs ht hq hx => ?_⟩
  refine r1 F H n σ ρ _ Kx _ hs ht (fun vs ds F1 H1 n1 g1 hv ht1 => ?_) hx
  obtain ⟨hlen, cap, hcap', hok, hw⟩ := ht1
  have hs1 := hs.mono g1
  refine ⟨fun y hy => let ⟨v, e, _⟩ := hs1.at_ _ _ (hcap' y hy).1; ⟨v, e⟩, fun f fx hn hcell => ?_⟩
  obtain ⟨l, hl⟩ : ∃ l, l = caps.filterMap (fun y => cells.lookup y) := ⟨_, rfl⟩
  rw [← hl] at fx hn ⊢
  have hn1 : ∀ c ∈ l, H1 c = none := fun c hc => (hn c hc).1
  have told : tellOkL (fun r => ∀ p ∈ r.cl, Told l F1 H1 f cap p) ds := tellOkL.imp (fun r hr p hp => by
    obtain ⟨h1, h2⟩ := hr p hp
    obtain ⟨c, v, u, o, e1, e2, ru, dd, e3⟩ := hcell _ h1
    rw [h2] at e1
    cases e1
    obtain ⟨v', e4, hv'⟩ := hs1.at_ _ _ (hcap' _ h1).1
    rw [e2] at e4
    cases e4
    exact ⟨by rw [hl]; exact List.mem_filterMap.mpr ⟨_, h1, h2⟩, v, u, o, ru, dd, e3, Has.lay hn1 hv' (hcap' _ h1).2⟩) hok
  refine ⟨by rw [hv.len]; exact hlen, layF l F1, n1, tellL cap ds, _, XFalse, g1.pb.lay fx hn1, hv.tell hn1 told, hw, fun v d F' H' n' g hv' hk' => ?_, fun _ _ _ _ _ _ _ _ z => z⟩
  obtain ⟨g2, hkeep⟩ := g.cut g1.pb hn1 fx fun c hc => (hn c hc).2
  have fx' : Fixed l H' := fun c hc => by rw [hkeep c hc]; exact fx c hc
  exact ⟨hkeep, hq v d _ _ n' (g1.trans g2) (hv'.cut fx' hk'.1) hk'.2⟩
end
end DL


set_option maxRecDepth 100000
set_option maxHeartbeats 2000000
/-! DL10: the end of a law. Own work over HandS. -/
namespace DL
open PySem PySem.Spec PyProof.Rows L2

/-- what the law's run may lean on of the heap at its call: the tables stand empty, the built-ins' module, .. -/
structure LawHeap (K : PySem.W.Frag) (mg mb : Str → Option Value) (cs : List (Addr × Addr)) (s : Shared) : Prop where
  kin : K.In s.heap
  glob : s.heap.Ns mainGlobals mg
  blt : s.heap.Ns builtinsNs mb
  bltv : ∀ x : Str, x ≠ "__name__" → mb x = bootBuiltins x
  lim : s.heap.NoLimit
  gens : s.gens = #[]
  tab : ∀ p ∈ cs, s.heap.get? p.2 = some { cls := .none, data := .fields #[] }
  tabK : ∀ p ∈ cs, K.lookup p.2 = none
  code : ∀ p ∈ cs, PySem.W.CodeHd s.heap p.1 p.2
  bm : ∃ (bm : Addr) (ob : Obj), mg "__builtins__" = some (.ref bm) ∧ bm ≠ builtinsNs ∧ s.heap.get? bm = some ob ∧ ob.cls = .type "module" ∧ ob.dict = some builtinsNs ∧ ob.data = .plain
open Classical in
/-- what is tracked: the script (if it is no written thing), the tables -/
noncomputable def lawH (K : PySem.W.Frag) (cs : List (Addr × Addr)) (a : Addr) (o : Obj) (vs : List V) : Hp := fun b =>
  if b = a then (if K.lookup a = none then some (.frz o (.lst vs)) else none) else if b ∈ cs.map (·.2) then some (.tbl #[]) else none
/-- no list is tracked -/
def NoLst (H : Hp) : Prop := ∀ a vs, H a ≠ some (.lst vs)
/-- the promise of a def that is called where no list is tracked -/
def spDN (m : Nat) (w : List D → Wm D) : Sp := fun vs H Q E => NoLst H ∧ spD m w vs H Q E
theorem law_callG {P : Program} {w : World} {K : PySem.W.Frag} {mg mb : Str → Option Value} {k : Nat} {fa a : Addr} {cs : List (Addr × Addr)} {fd : FuncData} {x : Str} {lw : List D → Wm D} {s₁ : Shared} {vs : List Value} {ns : List Int} (L : LawHeap K mg mb cs s₁)
    (ha : s₁.heap.get? a = some { cls := .type "list", data := .seq vs.toArray }) (hi : IntsAre vs ns) (hl : ns.length ≤ sizeLine) (hr : Room k callerA)
    (F : ∀ base : Heap, K.In base → base.Ns mainGlobals mg → (∀ p ∈ cs, LamX.TabB base mg p.1 p.2) → FnG P w K mg base k fa fd [x] (spDN 1 lw)) (hbind : ∀ (s : Shared) (u : Value), BindsTo s fd ⟨[u], []⟩ [(x, u)])
    (hw : lw [.scr K ns (cs.map (·.2))] (fun d _ => d = .bl true) XFalse 0) :
    codeAny (model P w) callerA (.call (.ref fa) ⟨[.ref a], []⟩) (fun r s' => r = .ok (.ret (.bool true)) ∧ OldK s₁.heap s'.heap ∧ s'.os = s₁.os ∧ AllBare s'.gens) s₁ := by
  have rv := vals_ints hi
  have lenV := hi.length
  obtain ⟨o, ho⟩ : ∃ o : Obj, o = { cls := .type "list", data := .seq vs.toArray } := ⟨_, rfl⟩
  obtain ⟨H, hH⟩ : ∃ H : Hp, H = lawH K cs a o (ns.map V.int) := ⟨_, rfl⟩
  have isT : ∀ b, b ∈ cs.map (·.2) → s₁.heap.get? b = some { cls := .none, data := .fields #[] } ∧ K.lookup b = none := fun b hb => by
    obtain ⟨p, hp, rfl⟩ := List.mem_map.mp hb
    exact ⟨L.tab p hp, L.tabK p hp⟩
  have aT : a ∉ cs.map (·.2) := fun z => by
    have q := (isT a z).1
    rw [ha] at q
    have z' : Data.seq vs.toArray _ = Data.fields #[] := congrArg Obj.data (Option.some.inj q)
    cases z'
  have atT : ∀ b, b ∈ cs.map (·.2) → H b = some (.tbl #[]) := fun b hb => by
    have hba : b ≠ a := fun z => aT (z ▸ hb)
    rw [hH]
    show (if b = a then _ else _) = _
    rw [if_neg hba, if_pos hb]
  have atA : H a = if K.lookup a = none then some (.frz o (.lst (ns.map V.int))) else none := by
    rw [hH]
    exact if_pos rfl
  have atN : ∀ b, b ≠ a → b ∉ cs.map (·.2) → H b = none := fun b h1 h2 => by
    rw [hH]
    show (if b = a then _ else _) = _
    rw [if_neg h1, if_neg h2]
  have inv : ∀ b u, H b = some u → (b = a ∧ K.lookup a = none ∧ u = .frz o (.lst (ns.map V.int))) ∨ (b ∈ cs.map (·.2) ∧ u = .tbl #[]) := fun b u e => by
    by_cases h1 : b = a
    · subst h1
      rw [atA] at e
      by_cases hk : K.lookup b = none
      · rw [if_pos hk] at e
        exact .inl ⟨rfl, hk, (Option.some.inj e).symm⟩
      · rw [if_neg hk] at e
        cases e
    · by_cases h2 : b ∈ cs.map (·.2)
      · rw [atT b h2] at e
        exact .inr ⟨h2, (Option.some.inj e).symm⟩
      · rw [atN b h1 h2] at e
        cases e
  -- tracked things are lists or tables
  have free_ : ∀ {b : Addr} {ob : Obj}, s₁.heap.get? b = some ob → (∀ xs n, ob.data ≠ .seq xs n) → ob.data ≠ .fields #[] → H b = none := fun {b ob} e h1 h2 => by
    cases q : H b with
    | none => rfl
    | some u =>
      rcases inv b u q with ⟨rfl, _⟩ | ⟨hb, _⟩
      · rw [ha] at e
        cases e
        exact (h1 _ _ rfl).elim
      · rw [(isT b hb).1] at e
        cases e
        exact (h2 rfl).elim
  have freeD : ∀ {b : Addr} {ob : Obj} {es : Array DictEntry} {ep : Nat}, s₁.heap.get? b = some ob → ob.data = .dict es ep → H b = none := fun {b ob es ep} e d => free_ e (fun xs n z => by rw [d] at z; cases z) fun z => by rw [d] at z; cases z
  have nsK : ∀ {b : Addr} {m : Str → Option Value}, s₁.heap.Ns b m → (hidT s₁.heap H).Ns b m := fun {b m} ⟨ob, es, ep, e, d, r⟩ => ⟨ob, es, ep, hidT_get e (freeD e d), d, r⟩
  have hKb : K.In (hidT s₁.heap H) := fun b ob e => hidT_get (L.kin b ob e) (by
    cases q : H b with
    | none => rfl
    | some u =>
      rcases inv b u q with ⟨rfl, hk, _⟩ | ⟨hb, _⟩
      · rw [hk] at e; cases e
      · rw [(isT b hb).2] at e; cases e)
  have hok : HOk P w H s₁.heap := fun b u e => by
    rcases inv b u e with ⟨rfl, _, rfl⟩ | ⟨hb, rfl⟩
    · exact ⟨by rw [ho]; exact ha, by rw [List.length_map]; exact hl, vs, _, rv, ha⟩
    · exact (isT b hb).1
  have hM : L2.Mod K mg (hidT s₁.heap H) := ⟨hKb, nsK L.glob, ⟨mb, nsK L.blt, L.bltv⟩, let ⟨mc, h1, h2⟩ := L.lim; ⟨mc, nsK h1, h2⟩⟩
  have TB : ∀ p ∈ cs, LamX.TabB (hidT s₁.heap H) mg p.1 p.2 := fun p hp => by
    have hTp := L.tab p hp
    refine ⟨?_, ?_, fun z => ?_⟩
    · obtain ⟨ob, us, file, tf, flags, tg, inF, text, tt, e1, r1, r2, r3, r4, r5, r6, r7, r8, hne⟩ := L.code p hp
      refine ⟨ob, us, file, tf, flags, tg, inF, text, tt, hidT_get e1 (free_ e1 (fun xs n z => ?_) fun z => ?_), r1, r2, r3, r4, r5, r6, r7, r8, hne⟩
      · rw [r2] at z; cases z
      · rw [r2] at z
        cases z
        simp at r3
    · obtain ⟨bm, ob, b1, b2, b3, b4, b5, b6⟩ := L.bm
      refine ⟨bm, ob, b1, b2, fun q => ?_, fun q => ?_, hidT_get b3 (free_ b3 (fun xs n z => ?_) fun z => ?_), b4, b5, b6⟩
      · obtain ⟨og, es, ep, e, hd, _⟩ := L.glob
        rw [q, e] at b3
        cases b3
        rw [hd] at b6
        cases b6
      · rw [q, hTp] at b3
        cases b3
        cases b6
      · rw [b6] at z; cases z
      · rw [b6] at z; cases z
    · obtain ⟨og, es, ep, e, hd, _⟩ := L.glob
      rw [z, hTp] at e
      cases e
      cases hd
  have e0 : Env0 P w K mg (hidT s₁.heap H) callerA [] s₁ H := ⟨rfl, hM, fun b ob e => of_hidT e, Nat.le_of_eq (hidT_size _ _), trivial, fun b hb => absurd (show b ∈ ([] : List Addr) from hb) (by simp), hok, .of_eq L.gens⟩
  have pb : PenB (fun b => ∃ u, H b = some u) H 0 := ⟨fun b c p e => (by rcases inv b _ e with ⟨_, _, z⟩ | ⟨_, z⟩ <;> cases z), fun b h => h, fun Q ps e => by
    rcases inv Q _ e with ⟨_, _, z⟩ | ⟨_, z⟩
    · cases z
    · cases z
      exact ⟨True.intro, fun pos cv z => by
        have z : codeAmong pos [] = some cv := z
        simp [codeAmong] at z⟩⟩
  have hscr : Has (fun b => ∃ u, H b = some u) H (.ref a) (.scr K ns (cs.map (·.2))) := .scr (by
    cases hk : K.lookup a with
    | none => exact .inl ⟨o, ⟨_, by rw [atA, if_pos hk]⟩, by rw [atA, if_pos hk]⟩
    | some oo =>
      have e := L.kin a oo hk
      rw [ha] at e
      cases e
      exact .inr fun H' => .inr ⟨_, vs.toArray, _, hk, rfl, rfl, rfl, by rw [List.size_toArray, lenV]; exact hl, by simpa using rv⟩) fun T hT => ⟨⟨_, atT T hT⟩, _, atT T hT⟩
  refine codeAny_mono ((F _ hKb (nsK L.glob) TB).run callerA [] s₁ H ⟨[.ref a], []⟩ [.ref a] [.ref a] (fun v _ => v = .bl true) (fun _ _ _ => False) rfl hr e0 (hbind s₁ (.ref a)) (.cons rfl .nil)
    ⟨fun b vs e => (by rcases inv b _ e with ⟨_, _, z⟩ | ⟨_, z⟩ <;> cases z), rfl, _, 0, _, _, _, pb, .cons hscr .nil, hw, fun v d F' H' n' g hv hd => by subst hd; cases hv; rfl, fun _ _ _ _ _ _ _ _ z => z⟩) fun r s' h => ?_
  cases r with
  | error e =>
    obtain ⟨_, _, _, _, _, _, _, _, _, _, _, _, z⟩ := h
    exact z.elim
  | ok fl =>
    cases fl with
    | next => exact False.elim h
    | brk => exact False.elim h
    | cont => exact False.elim h
    | ret u =>
      obtain ⟨v, H', os, bare, un, hok', r', q⟩ := h
      have q' : v = .bl true := q
      subst q'
      obtain rfl : u = Value.bool true := r'
      have grown : ∀ p ∈ cs, ∃ more : Array Value, s'.heap.get? p.2 = some { cls := .none, data := .fields more } := fun p hp => by
        obtain ⟨more, z⟩ := un.tbls p.2 #[] (atT p.2 (List.mem_map.mpr ⟨p, hp, rfl⟩))
        exact ⟨_, hok' p.2 _ z⟩
      have key : ∀ b ob, b ∉ cs.map (·.2) → s₁.heap.get? b = some ob → s'.heap.get? b = some ob := fun b ob nb e => by
        cases q : H b with
        | none => exact un.keep b ob e q (by intro z; exact absurd (show b ∈ ([] : List Addr) from z) (by simp)) (by simp)
        | some u =>
          rcases inv b u q with ⟨rfl, _, rfl⟩ | ⟨hb, _⟩
          · have z2 := un.frzs b o _ q
            obtain ⟨e1, _⟩ := hok b _ q
            obtain ⟨e2, _⟩ := hok' b _ z2
            rw [e] at e1
            cases e1
            exact e2
          · exact absurd hb nb
      refine ⟨rfl, ⟨fun b ob e => ?_, fun b ob e => ?_⟩, os, bare⟩
      · by_cases hb : b ∈ cs.map (·.2)
        · obtain ⟨p, hp, rfl⟩ := List.mem_map.mp hb
          obtain ⟨more, hm⟩ := grown p hp
          rw [L.tab p hp] at e
          cases e
          exact .inr (.inl ⟨((L.code p hp).tab (L.tab p hp)).isCodeTable, rfl, #[], more, rfl, by rw [Array.empty_append]; exact hm⟩)
        · exact .inl (key b ob hb e)
      · by_cases hb : b ∈ cs.map (·.2)
        · obtain ⟨p, hp, rfl⟩ := List.mem_map.mp hb
          obtain ⟨more, hm⟩ := grown p hp
          exact ⟨_, hm⟩
        · exact ⟨ob, key b ob hb e⟩

/-- what is known of the law's promise at the head's heap h -/
def LawAtN (l : PySem.W.OpenLaw) (w : World) (K : PySem.W.Frag) (k n : Nat) (x : Str) (mg : Str → Option Value) (fa : Addr) (h : Heap) : Prop :=
  ∃ (fd : FuncData) (cs : List (Addr × Addr)) (lw : List D → Wm D), (∀ p ∈ cs, h.get? p.2 = some { cls := .none, data := .fields #[] }) ∧ (∀ p ∈ cs, K.lookup p.2 = none) ∧ (∀ p ∈ cs, PySem.W.CodeHd h p.1 p.2) ∧ (∀ (s : Shared) (u : Value), BindsTo s fd ⟨[u], []⟩ [(x, u)]) ∧
    (∀ ns : List Int, ns.length ≤ n → (∀ z ∈ ns, Builtin.Int.intBits z ≤ 1048576) → lw [.scr K ns (cs.map (·.2))] (fun d _ => d = .bl true) XFalse 0) ∧
    ∀ base : Heap, K.In base → base.Ns mainGlobals mg → (∀ p ∈ cs, LamX.TabB base mg p.1 p.2) → FnG l.prog w K mg base k fa fd [x] (spDN 1 lw)
theorem walk_ofN {l : PySem.W.OpenLaw} {n k : Nat} {q : Program} {loose : List Str} {XP : (Str → Option Value) → Heap → Prop} {YP : World → Heap → Prop} {d : DefRec} {K : Params → PySem.W.Frag} {x : Str}
    (hn : l.most = some n) (hn2 : n ≤ sizeLine) (hdf : d.params.defaults = []) (hr : Room k callerA) (hY : ∀ (w : World) (h : Heap), YP w h → (K w.params).In h)
    (F : ∀ (w : World) (mg : Str → Option Value) (fa : Addr) (h : Heap), YP w h → (K w.params).In h → h.Ns mainGlobals mg → mg d.name = some (.ref fa) → LawAtN l w (K w.params) k n x mg fa h) :
    PySem.W.WalkO q loose XP YP l.row.toRowW d [] (fun f vs => PySem.call f vs) := by
  refine Att.attach_callB hn hdf fun w s₀ s₁ mg mb fa o pm cd doc a vs ns G Y ho hd hcd hmg hobj hints hlen hbits hg => ?_
  have KX := hY w _ Y
  obtain ⟨fd, cs, lw, hT, nT, C, hb, hsp, hF⟩ := F w mg fa _ Y KX G.T.g hmg
  exact law_callG ⟨KX, G.T.g, G.T.b, G.T.builtins, G.T.nolimit, hg, hT, nT, C, G.T.bmain⟩ hobj hints (Nat.le_trans hlen hn2) hr hF hb (hsp ns hlen hbits)
/-- what is known of the law's promise at the head's heap h -/
def LawAtG (l : PySem.W.OpenLaw) (w : World) (K : PySem.W.Frag) (k n : Nat) (x : Str) (mg : Str → Option Value) (fa : Addr) (h : Heap) : Prop :=
  ∃ (fd : FuncData) (cs : List (Addr × Addr)) (lw : List D → Wm D), (∀ p ∈ cs, h.get? p.2 = some { cls := .none, data := .fields #[] }) ∧ (∀ p ∈ cs, K.lookup p.2 = none) ∧ (∀ p ∈ cs, PySem.W.CodeHd h p.1 p.2) ∧ (∀ (s : Shared) (u : Value), BindsTo s fd ⟨[u], []⟩ [(x, u)]) ∧
    (∀ ns : List Int, ns.length ≤ n → (∀ z ∈ ns, Builtin.Int.intBits z ≤ 1048576) → lw [.scr K ns (cs.map (·.2))] (fun d _ => d = .bl true) XFalse 0) ∧
    ∀ base : Heap, K.In base → base.Ns mainGlobals mg → (∀ p ∈ cs, LamX.TabB base mg p.1 p.2) → FnG l.prog w K mg base k fa fd [x] (spD 1 lw)
theorem walk_ofG {l : PySem.W.OpenLaw} {n k : Nat} {q : Program} {loose : List Str} {XP : (Str → Option Value) → Heap → Prop} {YP : World → Heap → Prop} {d : DefRec} {K : Params → PySem.W.Frag} {x : Str}
    (hn : l.most = some n) (hn2 : n ≤ sizeLine) (hdf : d.params.defaults = []) (hr : Room k callerA) (hY : ∀ (w : World) (h : Heap), YP w h → (K w.params).In h)
    (F : ∀ (w : World) (mg : Str → Option Value) (fa : Addr) (h : Heap), YP w h → (K w.params).In h → h.Ns mainGlobals mg → mg d.name = some (.ref fa) → LawAtG l w (K w.params) k n x mg fa h) :
    PySem.W.WalkO q loose XP YP l.row.toRowW d [] (fun f vs => PySem.call f vs) :=
  walk_ofN hn hn2 hdf hr hY fun w mg fa h a b c d => let ⟨fd, cs, lw, h1, h2, h3, h4, h5, h6⟩ := F w mg fa h a b c d; ⟨fd, cs, lw, h1, h2, h3, h4, h5, fun base k1 k2 k3 => (h6 base k1 k2 k3).imp fun _ _ _ _ z => z.2⟩
end DL


set_option maxRecDepth 100000
set_option maxHeartbeats 2000000
/-! DL11: further words. Own work over HandS. -/
namespace DL
open PySem PySem.Spec PyProof.Rows L2

section
variable {ι : Type} {X : ι → Cx} {W : WX}
/-! ### isinstance with a tuple of classes -/
theorem DE.isiT {a : Expr} {Ts : List Expr} {cs : List V} {us : List Value} {t : TD D} {tT : TA} {p pos tp : Pos} {x1 : Nat} {K : PySem.W.Frag} (hK : ∀ i, (X i).K = K) (hT : ∀ i, PA (X i) Ts tT) (hTr : ∀ σ H Q, Q cs H → tT σ H Q) (hc : Paired ClsV cs us) (hl : cs.length ≤ 100) (hg : ∀ i, Gl (X i) "isinstance") (hm : ∀ i, (X i).mg "isinstance" = none) (h : DE X W a t)
    (h1 : ∀ i, starEach [a, .Tuple Ts x1 tp] (X i).env = (false, eval a (X i).env) :: starEach [.Tuple Ts x1 tp] (X i).env := by intro _; rfl) (h2 : ∀ i, starEach [.Tuple Ts x1 tp] (X i).env = (false, eval (.Tuple Ts x1 tp) (X i).env) :: starEach [] (X i).env := by intro _; rfl)
    (hpl : ∀ i, (backTo pos (starEach [.Tuple Ts x1 tp] (X i).env)).any (·.1) = false := by intro _; rfl) : DE X W (.Call (.Name "isinstance" p) [a, .Tuple Ts x1 tp] [] pos) (fun ρ => do fIsi K us (← t ρ)) := by
  obtain ⟨te, pe, r⟩ := h
  refine ⟨tCB (rIsiT K) (tCons te (tCons (tTup tT) tNil)), fun i => by rw [← hK i]; exact pe_callB call_isiT (hg i) (hm i) (by decide +kernel) (pa_cons (pe i) (pa_cons (pe_tup (hT i)) pa_nil (h2 i)) (h1 i)) (by decide) (by decide) (h1 i) (hpl i), fun F H n σ ρ Kd Kx Q hs ht hq hx => ?_⟩
  refine r F H n σ ρ _ Kx _ hs ht (fun v d F1 H1 n1 g1 hv ht1 => ?_) hx
  obtain ⟨ok, hk⟩ := ht1
  refine hTr σ H1 _ ⟨by rw [sizeLine_eq]; omega, fun q hq0 => ?_⟩
  cases e : PySem.W.kitAny K (tyD d) us with
  | none => rw [e] at hk; exact hk.elim
  | some b =>
    rw [e] at hk
    have g : Grow F1 H1 n1 F1 (upd H1 q (.tup cs)) n1 := ⟨(Grow.laid g1.pb hq0 .tup).keep, fun _ f => f, fun _ f => .inl f, g1.pb.put (g1.pb.out hq0) .tup, Nat.le_refl _⟩
    exact ⟨v, q, cs, tyD d, us, b, rfl, upd_same, hc, (hv.mono g).tyX ok, e, hq _ _ F1 _ n1 (g1.trans g) (.bl b) hk⟩
/-! ### x.bit_length() -/
def fBits : D → Wm D
  | .int i => pure (.int (Builtin.Int.intBits i : Nat))
  | _ => Wm.fail
theorem DE.bits {o : Expr} {t : TD D} {apos pos : Pos} (h : DE X W o t) (hbase : ∀ i, attributeBase o "bit_length" (X i).env (eval o (X i).env) = eval o (X i).env := by intro _; rfl) (hline : (apos.endLine == pos.line) = true := by rfl) :
    DE X W (.Call (.Attribute o "bit_length" apos) [] [] pos) (fun ρ => do fBits (← t ρ)) := by
  obtain ⟨te, p, r⟩ := h
  refine ⟨_, fun i => pe_bits (p i) (hbase i) hline, fun F H n σ ρ Kd Kx Q hs ht hq hx => ?_⟩
  refine r F H n σ ρ _ Kx _ hs ht (fun v d F1 H1 n1 g1 hv ht1 => ?_) hx
  cases hv <;> try exact ht1.elim
  exact ⟨_, rfl, hq _ _ F1 H1 n1 g1 (.int _) ht1⟩
/-! ### {} -/
theorem DE.dnew {pos : Pos} : DE X W (.Dict [] [] pos) (fun _ => pure (.dic [] [])) := ⟨_, fun _ => pe_dnewK, fun F H n σ ρ Kd Kx Q hs ht hq hx p hp => by
  have g : Grow F H n (plusF F p) (upd H p (.dK [])) n := .laid hs.pb hp (.dK rfl)
  exact hq _ (.dic [] []) _ _ n g (.dic plusF_same upd_same rfl rfl .nil) ht⟩
/-! ### a, b = x, y; plain locals -/
def dPar (i j : Nat) (t : TD (List D)) : TDS := fun E ρ n => t ρ (fun ds n' => match ds with
  | [d, e] => E.nx ((ρ.set i (some (.d d))).set j (some (.d e))) n'
  | _ => False) (fun x n' => E.ex x ρ n') n
theorem DS.par {i j : Nat} {x y : Str} {a b : Expr} {ta : TD (List D)} {px py pt pos : Pos} {kt k2 pt2} (hc : ∀ k, (X k).calm = true) (hN : ∀ k, (X k).N.Nodup) (hi : ∀ k, (X k).N[i]? = some x) (hj : ∀ k, (X k).N[j]? = some y) (hij : i ≠ j)
    (hx : ∀ k, (X k).env.scope.names.lookup x = some .local) (hy : ∀ k, (X k).env.scope.names.lookup y = some .local) (ha : DA X W [a, b] ta)
    (hw : ∀ k, swappedStores [.Tuple [.Name x px, .Name y py] kt pt] (.Tuple [a, b] k2 pt2) (X k).env = pure (some [x, y]))
    (hs : ∀ k, swapsWithSole [.Tuple [.Name x px, .Name y py] kt pt] (.Tuple [a, b] k2 pt2) pos.line (X k).env = pure false := by intro _; rfl) :
    DS X W (.Assign [.Tuple [.Name x px, .Name y py] kt pt] (.Tuple [a, b] k2 pt2) pos) (dPar i j ta) := by
  obtain ⟨tA, p, r⟩ := ha
  refine ⟨_, fun k => ps_par (hc k) (hN k) (hi k) (hj k) hij (hx k) (hy k) (p k) (hw k) (hs k), fun B F H n σ ρ E Z s h eo => ?_⟩
  refine r F H n σ ρ _ _ _ s.hs h (fun vs ds F' H' n' g hv hk => ?_) fun cls od x F' H' n' g hx he => eo.ex cls od x σ ρ F' H' n' (s.mono g) g.later hx he
  match ds, hk with
  | [d, e], hk =>
    cases hv with
    | cons h1 hv =>
    cases hv with
    | cons h2 hv =>
    cases hv
    exact ⟨_, _, rfl, eo.nx _ _ F' H' n' (((s.mono g).set h1).set h2) g.later hk⟩
end
/-- a conjunction's rows as they come: x and (y and z) of values -/
theorem pyD_int {i : Int} : pyD (.int i) = .int i := by unfold pyD; rfl
end DL


set_option maxRecDepth 100000
set_option maxHeartbeats 2000000
/-! DL12: defs by name; the monad's rows. Own work. -/
namespace DL
open PySem PySem.Spec PyProof.Rows L2
/-- a def of one's own, by its name -/
structure DefG (P : Program) (w : World) (K : PySem.W.Frag) (mg : Str → Option Value) (base : Heap) (x : Str) (ps : List Str) (k : Nat) (wf : List D → Wm D) : Prop where
  ex : ∃ f fd, FnG P w K mg base k f fd ps (spD ps.length wf) ∧ mg x = some (.ref f) ∧ PySem.W.keepIn K (.ref f) = true ∧ Binds K fd ps []
/-- by its text -/
structure DefF (K : PySem.W.Frag) (mg : Str → Option Value) (x : Str) (st : Stmt) (ps : List Str) : Prop where
  ex : ∃ f fd, Fun K x x st f fd ∧ mg x = some (.ref f) ∧ Binds K fd ps []
section
variable {P : Program} {w : World} {K : PySem.W.Frag} {mg : Str → Option Value} {base : Heap}
theorem def_ok {x : Str} {st : Stmt} {N ps : List Str} {k : Nat} {t : TDS} {w' : List D → Wm D} (F : DefF K mg x st ps) (S : FnScope N ps (defScope st))
    (hbody : ∀ (f : Addr) (cdv : Value) (A : Around) (outer : List Env) (s : Shared) (H : Hp) (E : XK), A.guards = some [] → Room k (A.deeper (envOfC x (defScope st) s.heap.objs.size f cdv)) → DSs (bCx P w K mg base N x st f cdv A outer s H E) (bW E) (defBody st) t)
    (hw : ∀ ds Kd Kx n, ds.length = ps.length → w' ds Kd Kx n → bodyW t N.length ds Kd Kx n) : DefG P w K mg base x ps (k + 1) w' := by
  obtain ⟨f, fd, F, m, b⟩ := F.ex
  exact ⟨f, fd, fn_ok F S (hbody f) hw, m, F.kp, b⟩
theorem def_draw {x : Str} {st : Stmt} {N ps : List Str} {k : Nat} (F : DefF K mg x st ps) (S : FnScope N ps (defScope st)) (hN : N.length = 5) (hps : ps.length = 2)
    (hbody : ∀ (f : Addr) (cdv : Value) (A : Around) (outer : List Env) (s : Shared) (H : Hp) (E : XK), A.guards = some [] → Room k (A.deeper (envOfC x (defScope st) s.heap.objs.size f cdv)) → PSs (cxOf (L2.CX P w) P w K mg base N x (defScope st) f cdv A outer s H E) (defBody st) (tDraw K)) :
    DefG P w K mg base x ps (k + 1) drawW := by
  obtain ⟨f, fd, F, m, b⟩ := F.ex
  exact ⟨f, fd, by rw [hps]; exact draw_ok F S hN hps (hbody f), m, F.kp, b⟩
end
/-! ### more operators -/
def fInt0 (g : Int → Int → Int) : D → D → Wm D
  | .int i, .int j => pure (.int (g i j))
  | _, _ => Wm.fail
theorem sem_int0 {g : Int → Int → Int} : Sem2 (rI0 fun i j => .int (g i j)) (fInt0 g) := by
  intro F H n x y a b K Q pb hx hy ht hq
  cases hx <;> cases hy <;> first | exact ht.elim | skip
  exact ⟨_, _, rfl, rfl, hq _ _ F H n (.refl pb) (.int _) ht⟩
def nonB : D → Bool
  | .non => true
  | _ => false
theorem Has.nonB {F : Addr → Prop} {H : Hp} {v : V} {d : D} (h : Has F H v d) : decide (v = .non) = nonB d := by
  cases h <;> simp [DL.nonB]
def fIsN : D → D → Wm D
  | d, .non => pure (.bl (nonB d))
  | _, _ => Wm.fail
def fNotN : D → D → Wm D
  | d, .non => pure (.bl (!nonB d))
  | _, _ => Wm.fail
theorem sem_isN : Sem2 (fun x y H Q => y = .non ∧ Q (.bl (decide (x = .non))) H) fIsN := by
  intro F H n x y a b K Q pb hx hy ht hq
  cases hy <;> try exact ht.elim
  exact ⟨rfl, by rw [hx.nonB]; exact hq _ _ F H n (.refl pb) (.bl _) ht⟩
theorem sem_notN : Sem2 (fun x y H Q => y = .non ∧ Q (.bl (!decide (x = .non))) H) fNotN := by
  intro F H n x y a b K Q pb hx hy ht hq
  cases hy <;> try exact ht.elim
  exact ⟨rfl, by rw [hx.nonB]; exact hq _ _ F H n (.refl pb) (.bl _) ht⟩
/-! ### == , != -/
def sclE : D → D → Option Bool
  | .int i, .int j => some (decide (i = j))
  | .str i, .str j => some (decide (i = j))
  | .bl i, .bl j => some (decide (i = j))
  | .non, .non => some true
  | _, _ => none
def fEqA (d e : D) : Wm D := match sclE d e with
  | some b => pure (.bl b)
  | none => fEq d e
def fNeA (d e : D) : Wm D := match sclE d e with
  | some b => pure (.bl (!b))
  | none => fNe d e
def rEqA (K : PySem.W.Frag) : R2 := fun x y H Q => rEq x y H Q ∨ rEqD K x y H Q
def rNeA (K : PySem.W.Frag) : R2 := fun x y H Q => rNe x y H Q ∨ rNeD K x y H Q
theorem op_eqA {X : Cx} (hu : X.A.units + 64 < cLine) : OpR X (compareOp .Eq) (rEqA X.K) := op_eq.or (op_eqD hu)
theorem op_neA {X : Cx} (hu : X.A.units + 64 < cLine) : OpR X (compareOp .NotEq) (rNeA X.K) := op_ne.or (op_neD hu)
theorem scl_has {F : Addr → Prop} {H : Hp} {x y : V} {a b : D} {c : Bool} (hx : Has F H x a) (hy : Has F H y b) (e : sclE a b = some c) : scal x y = true ∧ decide (x = y) = c := by
  cases hx <;> cases hy <;> first | (cases e; done) | skip
  case non.non => cases e; exact ⟨rfl, by simp⟩
  case bl.bl i j => cases e; exact ⟨rfl, by simp⟩
  case int.int i j => cases e; exact ⟨rfl, by simp⟩
  case str.str i j => cases e; exact ⟨rfl, by simp⟩
theorem sem_eqA {K : PySem.W.Frag} : Sem2 (rEqA K) fEqA := by
  intro F H n x y a b Kd Q pb hx hy ht hq
  unfold fEqA at ht
  cases e : sclE a b with
  | some c =>
    rw [e] at ht
    obtain ⟨h1, h2⟩ := scl_has hx hy e
    exact .inl ⟨h1, by rw [h2]; exact hq _ _ F H n (.refl pb) (.bl _) ht⟩
  | none =>
    rw [e] at ht
    exact .inr (sem_eq F H n x y a b Kd Q pb hx hy ht hq)
theorem sem_neA {K : PySem.W.Frag} : Sem2 (rNeA K) fNeA := by
  intro F H n x y a b Kd Q pb hx hy ht hq
  unfold fNeA at ht
  cases e : sclE a b with
  | some c =>
    rw [e] at ht
    obtain ⟨h1, h2⟩ := scl_has hx hy e
    exact .inl ⟨h1, by rw [h2]; exact hq _ _ F H n (.refl pb) (.bl _) ht⟩
  | none =>
    rw [e] at ht
    exact .inr (sem_ne F H n x y a b Kd Q pb hx hy ht hq)
/-! ### the monad's rows -/
section
variable {α β : Type} {K : α → Nat → Prop} {Kb : β → Nat → Prop} {X : XD → Nat → Prop} {n : Nat}
theorem w_bind {m : Wm α} {f : α → Wm β} : (m >>= f) Kb X n = m (fun a n' => f a Kb X n') X n := rfl
theorem w_pure {a : α} : (pure a : Wm α) K X n = K a n := rfl
theorem w_need {p : Prop} {Ku : Unit → Nat → Prop} : Wm.need p Ku X n = (p ∧ Ku () n) := rfl
theorem w_fail : (Wm.fail : Wm α) K X n = False := rfl
theorem w_raise {x : XD} : (Wm.raise x : Wm α) K X n = X x n := rfl
theorem w_calm {m : Wm α} : calm m K X n = m K XFalse n := rfl
theorem w_ite {p : Prop} [Decidable p] {a b : Wm α} : (if p then a else b) K X n = if p then a K X n else b K X n := by split <;> rfl
end
theorem s_seq {t u : TDS} {E : DEnds} {ρ : Env'} {n : Nat} : dSeq t u E ρ n = t { E with nx := fun ρ' n' => u E ρ' n' } ρ n := rfl
theorem s_next {E : DEnds} {ρ : Env'} {n : Nat} : dNext E ρ n = E.nx ρ n := rfl
theorem s_onE {m : TD D} {k : D → Env' → Nat → Prop} {E : DEnds} {ρ : Env'} {n : Nat} : onE m k E ρ n = m ρ (fun d n' => k d ρ n') (fun x n' => E.ex x ρ n') n := rfl
theorem s_onT {m : TD Bool} {k : Bool → Env' → Nat → Prop} {E : DEnds} {ρ : Env'} {n : Nat} : onT m k E ρ n = m ρ (fun d n' => k d ρ n') (fun x n' => E.ex x ρ n') n := rfl
theorem s_asg {m : TD D} {k : Nat} {E : DEnds} {ρ : Env'} {n : Nat} : dAsg m (dName k) E ρ n = m ρ (fun d n' => E.nx (ρ.set k (some (.d d))) n') (fun x n' => E.ex x ρ n') n := rfl
theorem g_0 {x : D} {r : Env'} : getD 0 (some (.d x) :: r) = pure x := rfl
theorem g_s {x : Option SV} {i : Nat} {r : Env'} : getD (i + 1) (x :: r) = getD i r := rfl
theorem forD_inv {g : TDG} {tb : TDS} {E : DEnds} (I : Nat → Env' → Nat → Prop) : ∀ (ds : List D) (ρ : Env') (n : Nat), I ds.length ρ n → (∀ ρ n, I 0 ρ n → E.nx ρ n) →
    (∀ (k : Nat) (d : D) (ρ : Env') (n : Nat) (E' : DEnds), d ∈ ds → I (k + 1) ρ n → (∀ ρ n, I k ρ n → E'.nx ρ n) → (∀ ρ n, E.nx ρ n → E'.bk ρ n) → E'.rt = E.rt → E'.ex = E.ex → match g d ρ with | some ρ' => tb E' ρ' n | none => False) → forD g tb ds E ρ n
  | [], ρ, n, h, h0, _ => h0 ρ n h
  | d :: ds, ρ, n, h, h0, hs => by
    have z := hs ds.length d ρ n { E with nx := fun ρ'' n'' => forD g tb ds E ρ'' n'', ct := fun ρ'' n'' => forD g tb ds E ρ'' n'', bk := E.nx, nl := False } List.mem_cons_self h (fun ρ n hi => forD_inv I ds ρ n hi h0 fun k d' ρ n E' hd => hs k d' ρ n E' (List.mem_cons_of_mem _ hd)) (fun _ _ z => z) rfl rfl
    unfold forD
    exact z

/-! ### written data -/
theorem DE.weak {ι : Type} {X : ι → Cx} {W : WX} {e : Expr} {t t' : TD D} (h : DE X W e t) (hw : ∀ ρ K Xx n, t' ρ K Xx n → t ρ K Xx n) : DE X W e t' := by
  obtain ⟨te, p, r⟩ := h
  exact ⟨te, p, fun F H n σ ρ K Kx Q hs ht hq hx => r F H n σ ρ K Kx Q hs (hw ρ K Kx n ht) hq hx⟩
theorem DA.weak {ι : Type} {X : ι → Cx} {W : WX} {es : List Expr} {t t' : TD (List D)} (h : DA X W es t) (hw : ∀ ρ K Xx n, t' ρ K Xx n → t ρ K Xx n) : DA X W es t' := by
  obtain ⟨te, p, r⟩ := h
  exact ⟨te, p, fun F H n σ ρ K Kx Q hs ht hq hx => r F H n σ ρ K Kx Q hs (hw ρ K Kx n ht) hq hx⟩
def constD : Nat → Expr → Option D
  | 0, _ => none
  | k + 1, e => match e with
    | .Constant (.int i) _ _ => some (.int i)
    | .Constant (.bool b) _ _ => some (.bl b)
    | .Constant (.str x) _ _ => some (.str x)
    | .Constant .none _ _ => some .non
    | .UnaryOp .USub (.Constant (.int i) _ _) _ => some (.int (-i))
    | .Tuple es _ _ => if es.length ≤ 1000 then (es.foldr (fun e acc => (constD k e).bind fun d => acc.map (d :: ·)) (some [])).map .tup else none
    | .List es _ => if es.length ≤ 1000 then (es.foldr (fun e acc => (constD k e).bind fun d => acc.map (d :: ·)) (some [])).map .lst else none
    | .Dict [] [] _ => some (.dic [] [])
    | _ => none
theorem plain_const {k : Nat} {e : Expr} {d : D} (h : constD k e = some d) : plainE e = true := by
  cases k with
  | zero => cases h
  | succ k => cases e <;> first | rfl | (unfold constD at h; cases h)
section
variable {ι : Type} {X : ι → Cx} {W : WX}
theorem DA.cst {k : Nat} (ih : ∀ {e : Expr} {d : D}, constD k e = some d → DE X W e (fun _ => pure d)) : ∀ {es : List Expr} {ds : List D}, es.foldr (fun e acc => (constD k e).bind fun d => acc.map (d :: ·)) (some []) = some ds → DA X W es (fun _ => pure ds) ∧ ds.length = es.length
  | [], ds, h => by cases h; exact ⟨.nil, rfl⟩
  | e :: es, ds, h => by
    rw [List.foldr_cons] at h
    obtain ⟨d, h1, h⟩ := Option.bind_eq_some_iff.mp h
    obtain ⟨r, h2, h⟩ := Option.map_eq_some_iff.mp h
    subst h
    obtain ⟨a, l⟩ := DA.cst ih h2
    exact ⟨(DA.cons (ih h1) a (plain_const h1)).weak fun ρ K Xx n h => h, by simp [l]⟩
theorem DE.cstk : ∀ (k : Nat) {e : Expr} {d : D}, constD k e = some d → DE X W e (fun _ => pure d)
  | 0, _, _, h => by cases h
  | k + 1, e, d, h => by
    unfold constD at h
    split at h
    · cases h; exact .int
    · cases h; exact .bl
    · cases h; exact .str
    · cases h; exact .non
    · cases h
      exact (DE.op1 (fun _ _ p => pe_un un_neg p) sem_neg DE.int).weak fun ρ K Xx n h => h
    · split at h
      · rename_i hl
        obtain ⟨ds, h1, h⟩ := Option.map_eq_some_iff.mp h
        subst h
        obtain ⟨a, l⟩ := DA.cst (DE.cstk k) h1
        exact (DE.tup a).weak fun ρ K Xx n h => ⟨by unfold Fits; rw [l, sizeLine_eq]; omega, h⟩
      · cases h
    · split at h
      · rename_i hl
        obtain ⟨ds, h1, h⟩ := Option.map_eq_some_iff.mp h
        subst h
        obtain ⟨a, l⟩ := DA.cst (DE.cstk k) h1
        exact (DE.lst a).weak fun ρ K Xx n h => ⟨by unfold Fits; rw [l, sizeLine_eq]; omega, h⟩
      · cases h
    · cases h; exact .dnew
    · cases h
theorem DE.cst {e : Expr} (d : D) (h : constD 6 e = some d) : DE X W e (fun _ => pure d) := DE.cstk 6 h
end
end DL


set_option maxRecDepth 100000
set_option maxHeartbeats 2000000
/-! DL13: reductions of the monad's rows; errors by name. Own work. -/
namespace DL
open PySem PySem.Spec PyProof.Rows L2
structure ErrG (P : Program) (w : World) (K : PySem.W.Frag) (mg : Str → Option Value) (base : Heap) (x : Str) (C : Addr) (fs : List Str) (k : Nat) : Prop where
  ex : ∃ fI fd ps, OexC K C ∧ PySem.W.findIn K (.ref C) "__init__" = some (some (.ref fI)) ∧ PySem.W.typeIn K (.ref fI) = some (.type "function") ∧ FnOk P w K mg base (L2.CX P w) k fI fd ps (spInit C fs) ∧ Binds K fd ps [] ∧ mg x = some (.ref C)
theorem _root_.L2.Room.room1 {k : Nat} {A : Around} (r : Room k A) : A.units + 1 < cLine := by have := r.units; omega
theorem s_body {t : TDS} {N : Nat} {ds : List D} {Kd : D → Nat → Prop} {X : XD → Nat → Prop} {n : Nat} : bodyW t N ds Kd X n = t { nx := fun _ n' => Kd .non n', rt := Kd, bk := fun _ _ => False, ct := fun _ _ => False, ex := fun x _ n' => X x n' } (ds.map (fun d => some (.d d)) ++ List.replicate (N - ds.length) none) n := rfl
theorem s_brk {E : DEnds} {ρ : Env'} {n : Nat} : (fun (E : DEnds) (ρ : Env') (n : Nat) => E.bk ρ n) E ρ n = E.bk ρ n := rfl
theorem s_par {i j : Nat} {t : TD (List D)} {E : DEnds} {ρ : Env'} {n : Nat} : dPar i j t E ρ n = t ρ (fun ds n' => match ds with
  | [d, e] => E.nx ((ρ.set i (some (.d d))).set j (some (.d e))) n'
  | _ => False) (fun x n' => E.ex x ρ n') n := rfl
theorem s_for {ti : TD (List D)} {g : TDG} {tb : TDS} {E : DEnds} {ρ : Env'} {n : Nat} : dFor ti g tb E ρ n = ti ρ (fun ds n' => forD g tb ds E ρ n') (fun x n' => E.ex x ρ n') n := rfl
theorem s_raise {C : Addr} {fs : List Str} {t : TD (List D)} {E : DEnds} {ρ : Env'} {n : Nat} : raiseW C fs t E ρ n = t ρ (fun ds n' => ds.length = fs.length ∧ E.ex ⟨C, fs.reverse, ds.reverse⟩ ρ n') (fun x n' => E.ex x ρ n') n := rfl
theorem s_asgG {m : TD D} {g : TDG} {E : DEnds} {ρ : Env'} {n : Nat} : dAsg m g E ρ n = m ρ (fun d n' => match g d ρ with | some ρ' => E.nx ρ' n' | none => False) (fun x n' => E.ex x ρ n') n := rfl
theorem wm_match_bool {b : Bool} {α : Type} {x y : α} : (match b with | true => x | false => y) = if b = true then x else y := by cases b <;> rfl
/-! ### by data -/
theorem fEq_int {i j : Int} {K : D → Nat → Prop} {X : XD → Nat → Prop} {n : Nat} : fEqA (.int i) (.int j) K X n = K (.bl (decide (i = j))) n := rfl
theorem fNe_int {i j : Int} {K : D → Nat → Prop} {X : XD → Nat → Prop} {n : Nat} : fNeA (.int i) (.int j) K X n = K (.bl (!decide (i = j))) n := rfl
theorem fEq_str {i j : Str} {K : D → Nat → Prop} {X : XD → Nat → Prop} {n : Nat} : fEqA (.str i) (.str j) K X n = K (.bl (decide (i = j))) n := rfl
theorem fNe_str {i j : Str} {K : D → Nat → Prop} {X : XD → Nat → Prop} {n : Nat} : fNeA (.str i) (.str j) K X n = K (.bl (!decide (i = j))) n := rfl
theorem fInt_at {C : Int → Int → Prop} {g : Int → Int → Int} {i j : Int} {K : D → Nat → Prop} {X : XD → Nat → Prop} {n : Nat} : fInt C g (.int i) (.int j) K X n = (C i j ∧ K (.int (g i j)) n) := rfl
theorem fInt0_at {g : Int → Int → Int} {i j : Int} {K : D → Nat → Prop} {X : XD → Nat → Prop} {n : Nat} : fInt0 g (.int i) (.int j) K X n = K (.int (g i j)) n := rfl
theorem fAdd_int {i j : Int} {K : D → Nat → Prop} {X : XD → Nat → Prop} {n : Nat} : fAdd (.int i) (.int j) K X n = K (.int (i + j)) n := rfl
theorem fCmp_at {g : Int → Int → Bool} {i j : Int} {K : D → Nat → Prop} {X : XD → Nat → Prop} {n : Nat} : fCmpI g (.int i) (.int j) K X n = K (.bl (g i j)) n := rfl
theorem fNeg_at {i : Int} {K : D → Nat → Prop} {X : XD → Nat → Prop} {n : Nat} : fNeg (.int i) K X n = K (.int (-i)) n := rfl
theorem fLen_tup {ds : List D} {K : D → Nat → Prop} {X : XD → Nat → Prop} {n : Nat} : fLen [.tup ds] K X n = K (.int ds.length) n := rfl
theorem fLen_lst {ds : List D} {K : D → Nat → Prop} {X : XD → Nat → Prop} {n : Nat} : fLen [.lst ds] K X n = K (.int ds.length) n := rfl
theorem atI_0 {α : Type} {x : α} {r : List α} : L2.atI (x :: r) 0 = some x := by
  unfold L2.atI L2.ixN
  simp
theorem fIx_t0 {x : D} {r : List D} {K : D → Nat → Prop} {X : XD → Nat → Prop} {n : Nat} : fIx (.tup (x :: r)) (.int 0) K X n = K x n := by
  show (match L2.atI (x :: r) 0 with
    | some d => (pure d : Wm D)
    | none => Wm.fail) K X n = _
  rw [atI_0]
  rfl
theorem fIx_l0 {x : D} {r : List D} {K : D → Nat → Prop} {X : XD → Nat → Prop} {n : Nat} : fIx (.lst (x :: r)) (.int 0) K X n = K x n := by
  show (match L2.atI (x :: r) 0 with
    | some d => (pure d : Wm D)
    | none => Wm.fail) K X n = _
  rw [atI_0]
  rfl
theorem atI_1 {α : Type} {x y : α} {r : List α} : L2.atI (x :: y :: r) 1 = some y := by
  unfold L2.atI L2.ixN
  simp
  have : (1 : Int) < (r.length : Int) + 1 + 1 := by omega
  simp [this]
theorem fIx_t1 {x y : D} {r : List D} {K : D → Nat → Prop} {X : XD → Nat → Prop} {n : Nat} : fIx (.tup (x :: y :: r)) (.int 1) K X n = K y n := by
  show (match L2.atI (x :: y :: r) 1 with
    | some d => (pure d : Wm D)
    | none => Wm.fail) K X n = _
  rw [atI_1]
  rfl
theorem fIx_l1 {x y : D} {r : List D} {K : D → Nat → Prop} {X : XD → Nat → Prop} {n : Nat} : fIx (.lst (x :: y :: r)) (.int 1) K X n = K y n := by
  show (match L2.atI (x :: y :: r) 1 with
    | some d => (pure d : Wm D)
    | none => Wm.fail) K X n = _
  rw [atI_1]
  rfl
theorem fIntC_at {i : Int} {K : D → Nat → Prop} {X : XD → Nat → Prop} {n : Nat} : fIntC [.int i] K X n = K (.int i) n := rfl
theorem fAbs_at {i : Int} {K : D → Nat → Prop} {X : XD → Nat → Prop} {n : Nat} : fAbs [.int i] K X n = K (.int (if i < 0 then -i else i)) n := rfl
theorem fGcd_at {i j : Int} {K : D → Nat → Prop} {X : XD → Nat → Prop} {n : Nat} : fGcd [.int i, .int j] K X n = K (.int (Nat.gcd i.natAbs j.natAbs : Nat)) n := rfl
theorem fRepr_at {d : D} {K : D → Nat → Prop} {X : XD → Nat → Prop} {n : Nat} : fRepr [d] K X n = (Shows d ∧ K (.str (shw d)) n) := rfl
theorem fBits_at {i : Int} {K : D → Nat → Prop} {X : XD → Nat → Prop} {n : Nat} : fBits (.int i) K X n = K (.int (Builtin.Int.intBits i : Nat)) n := rfl
theorem fIs_at {a b : Bool} {K : D → Nat → Prop} {X : XD → Nat → Prop} {n : Nat} : fIs (.bl a) (.bl b) K X n = K (.bl (decide (a = b))) n := rfl
theorem range_at {j : Int} {K : List D → Nat → Prop} {X : XD → Nat → Prop} {n : Nat} : rangeOf [.int j] K X n = (Small62 j ∧ K (rangeD 0 j.toNat) n) := rfl
theorem fits_small {k : Nat} (h : k ≤ 100000) : Fits k := by unfold Fits; rw [sizeLine_eq]; omega
/-! ### kinds -/
mutual
def baseD : D → Bool
  | .non => true
  | .bl _ => true
  | .int _ => true
  | .str _ => true
  | .tup ds => baseL ds
  | .lst ds => baseL ds
  | .dic _ ds => baseL ds
  | .obj _ _ _ => false
  | .exc _ _ _ => false
  | .pen => false
  | .clo _ _ _ => false
  | .fnA _ => false
  | .scr _ _ _ => false
def baseL : List D → Bool
  | [] => true
  | d :: ds => baseD d && baseL ds
end
def intB : D → Bool
  | .int _ => true
  | .bl _ => true
  | _ => false
def blB : D → Bool
  | .bl _ => true
  | _ => false
def tupB : D → Bool
  | .tup _ => true
  | _ => false
def lstB : D → Bool
  | .lst _ => true
  | _ => false
def strB : D → Bool
  | .str _ => true
  | _ => false
section
variable {Kf : PySem.W.Frag} {d : D} {K : D → Nat → Prop} {X : XD → Nat → Prop} {n : Nat}
theorem isi_all {u : Value} {p : Bool} (h : tyOk Kf d) (e : PySem.W.kitOne Kf (tyD d) u = some p) : fIsi1 Kf u d K X n = K (.bl p) n := by
  show (tyOk Kf d ∧ (match PySem.W.kitOne Kf (tyD d) u with
    | some b => (pure (.bl b) : Wm D)
    | none => Wm.fail) K X n) = _
  rw [e]
  exact propext ⟨fun z => z.2, fun z => ⟨h, z⟩⟩
theorem isi_any {us : List Value} {p : Bool} (h : tyOk Kf d) (e : PySem.W.kitAny Kf (tyD d) us = some p) : fIsi Kf us d K X n = K (.bl p) n := by
  show (tyOk Kf d ∧ (match PySem.W.kitAny Kf (tyD d) us with
    | some b => (pure (.bl b) : Wm D)
    | none => Wm.fail) K X n) = _
  rw [e]
  exact propext ⟨fun z => z.2, fun z => ⟨h, z⟩⟩
theorem isi_int (h : baseD d = true) : fIsi1 Kf (.type "int") d K X n = K (.bl (intB d)) n := by
  cases d <;> first | exact isi_all trivial rfl | (unfold baseD at h; cases h)
theorem isi_bool (h : baseD d = true) : fIsi1 Kf (.type "bool") d K X n = K (.bl (blB d)) n := by
  cases d <;> first | exact isi_all trivial rfl | (unfold baseD at h; cases h)
theorem isi_tuple (h : baseD d = true) : fIsi1 Kf (.type "tuple") d K X n = K (.bl (tupB d)) n := by
  cases d <;> first | exact isi_all trivial rfl | (unfold baseD at h; cases h)
theorem isi_list (h : baseD d = true) : fIsi1 Kf (.type "list") d K X n = K (.bl (lstB d)) n := by
  cases d <;> first | exact isi_all trivial rfl | (unfold baseD at h; cases h)
theorem isi_str (h : baseD d = true) : fIsi1 Kf (.type "str") d K X n = K (.bl (strB d)) n := by
  cases d <;> first | exact isi_all trivial rfl | (unfold baseD at h; cases h)
theorem isi_tl (h : baseD d = true) : fIsi Kf [.type "tuple", .type "list"] d K X n = K (.bl (tupB d || lstB d)) n := by
  cases d <;> first | exact isi_any trivial rfl | (unfold baseD at h; cases h)
end
theorem s_try {K : PySem.W.Frag} {i : Nat} {t : TDS} {cl : List Clause} {E : DEnds} {ρ : Env'} {n : Nat} : dTry K i t cl E ρ n = t { E with ex := fun x ρ' n' => i < ρ'.length ∧ dClauses K E x ρ' n' cl } ρ n := rfl

theorem CloSp.mono {P : Program} {w : World} {K : PySem.W.Frag} {mg : Str → Option Value} {base : Heap} {j k : Nat} {r : CloR} {ds : List D} {m : Wm D} (h : CloSp P w K mg base j r ds m) (hk : j ≤ k) : CloSp P w K mg base k r ds m :=
  fun A outer s H F n f Kd Xd Q E hg hr => h A outer s H F n f Kd Xd Q E hg (hr.mono hk)
theorem lam_free_of {L : Nat} {sc : Scope} {names : List (Str × NameKind)} (h : ∀ y ∈ names, y.2 = .free → sc.names.lookup y.1 = some .cell) : ∀ y ∈ names, y.2 = .free → ∃ c, (cellsFrom L sc.names []).lookup y.1 = some c := fun y hy hf =>
  Option.isSome_iff_exists.mp (PySem.W.cellsFrom_some _ _ _ (.inl (h y hy hf)))
theorem lookup_inj : ∀ {cl : List (Str × Addr)}, (cl.map (·.2)).Nodup → ∀ x y c, cl.lookup x = some c → cl.lookup y = some c → x = y
  | cl, nd, x, y, c, h1, h2 => by
    obtain ⟨i, e1⟩ := ix_of_lookup h1
    obtain ⟨j, e2⟩ := ix_of_lookup h2
    have hi : (cl.map (·.2))[i]? = some c := by rw [List.getElem?_map, e1]; rfl
    have hj : (cl.map (·.2))[j]? = some c := by rw [List.getElem?_map, e2]; rfl
    have hlt : i < (cl.map (·.2)).length := (List.getElem?_eq_some_iff.mp hi).1
    have hij : i = j := (List.getElem?_inj hlt nd).mp (hi.trans hj.symm)
    subst hij
    rw [e1] at e2
    cases e2
    rfl
theorem cloScope_mk {N : List Str} {r : CloR} (kind : r.scope.kind = .function) (co : r.scope.isCoroutine = false) (gen : r.scope.isGenerator = false) (own : ∀ y ∈ r.scope.names, y.2 ≠ .local ∧ y.2 ≠ .cell) (names : r.cl.map (·.1) = N) (nd : N.Nodup) (fr : ∀ p ∈ r.scope.names, p.2 = .free → p.1 ∈ N) (ad : (r.cl.map (·.2)).Nodup)
    (bind : bindArgs (PySem.W.kla_fn "<lambda>" r.qual r.params r.body r.scope r.cl r.pm (.ref r.code) r.ctv) ⟨[], []⟩ = pure []) : CloScope N r :=
  ⟨kind, co, gen, own, names, nd, fun y h => fr _ (PySem.mem_of_lookup h) rfl, lookup_inj ad, bind⟩
/-- the texts of rows of lambdas -/
def lamOfAppend : Stmt → Expr
  | .Expr (.Call _ [.Tuple (e :: _) _ _] _ _) _ => e
  | _ => .Tuple [] 0 ⟨0, 0, 0, 0⟩
def lamOfFirst : Stmt → Expr
  | .Assign _ (.List [.Tuple (e :: _) _ _] _) _ => e
  | _ => .Tuple [] 0 ⟨0, 0, 0, 0⟩
def lamP : Expr → Arguments
  | .Lambda p _ _ _ => p
  | _ => { posonlyargs := [], args := [], vararg := none, kwonlyargs := [], kw_defaults := [], kwarg := none, defaults := [] }
def lamB : Expr → Expr
  | .Lambda _ b _ _ => b
  | e => e
def lamS : Expr → Scope
  | .Lambda _ _ s _ => s
  | _ => { kind := .module, names := [], isGenerator := false, isCoroutine := false, more := [] }
/-- a fold over rows, each turn giving the same -/
theorem lcD_const {g : TDG} {te : TD D} {y0 : D} {ρ : Env'} {n : Nat} {X : XD → Nat → Prop} : ∀ (ts acc : List D) (K : List D → Nat → Prop), acc.length + ts.length < sizeLine → (∀ t ∈ ts, ∃ ρ', g t ρ = some ρ' ∧ ∀ K : D → Nat → Prop, K y0 n → te ρ' K XFalse n) → K (acc ++ List.replicate ts.length y0) n → lcD g (fun _ => pure true) te ts ρ acc K X n
  | [], acc, K, _, _, hk => by
    have hk : K (acc ++ []) n := hk
    rw [List.append_nil] at hk
    exact hk
  | t :: ts, acc, K, hl, h, hk => by
    obtain ⟨ρ', e, ht⟩ := h t List.mem_cons_self
    rw [List.length_cons] at hl
    unfold lcD
    rw [e]
    refine ht _ ⟨by omega, ?_⟩
    refine lcD_const ts (acc ++ [y0]) K (by simp; omega) (fun t' ht' => h t' (List.mem_cons_of_mem _ ht')) ?_
    rw [List.append_assoc]
    exact hk
theorem bools_rep {k : Nat} {b : Bool} : boolsOf (List.replicate k (.bl b)) = some (List.replicate k b) := by
  induction k with
  | zero => rfl
  | succ k ih =>
    rw [List.replicate_succ, List.replicate_succ]
    show (boolOf (.bl b)).bind (fun c => (boolsOf (List.replicate k (.bl b))).map (c :: ·)) = _
    rw [ih]
    rfl
end DL


set_option maxRecDepth 100000
set_option maxHeartbeats 2000000
/-! DL14: small data may be shown. Own work. -/
namespace DL
open PySem PySem.Spec PyProof.Rows L2
mutual
/-- ints below 2 ** 200, texts of sane signs, empty dicts -/
def tinyB : D → Bool
  | .non => true
  | .bl _ => true
  | .int i => decide (i.natAbs < 2 ^ 200)
  | .str x => x.cps.toList.all fun c => decide (c < 16 ^ 8)
  | .tup ds => tinyL ds
  | .lst ds => tinyL ds
  | .dic ks ds => ks.isEmpty && ds.isEmpty
  | .obj _ _ _ => false
  | .exc _ _ _ => false
  | .pen => false
  | .clo _ _ _ => false
  | .fnA _ => false
  | .scr _ _ _ => false
def tinyL : List D → Bool
  | [] => true
  | d :: ds => tinyB d && tinyL ds
end
theorem int_short {i : Int} (h : i.natAbs < 2 ^ 200) : (PyData.shown (.int i)).length ≤ 202 ∧ i.natAbs.log2 < 1920 := by
  have h1 : i.natAbs.log2 < 200 := PySem.Flt.log2_lt_of (by decide) h
  have h2 := int_text_length_le (a := i) (k := 200) (by decide) h1
  refine ⟨?_, by omega⟩
  have e : (PyData.shown (.int i)).length = (toString i).length := by
    show (Str.ofString (toString i)).length = _
    rw [PySem.ofString_length]
  omega
mutual
theorem tiny_pd : ∀ {d : D}, tinyB d = true → (pyD d).leavesShort 202 = true ∧ (pyD d).showable = true
  | .non, _ => by unfold pyD; exact ⟨rfl, rfl⟩
  | .bl _, _ => by unfold pyD; exact ⟨rfl, rfl⟩
  | .int i, h => by
    unfold tinyB at h
    have h := int_short (of_decide_eq_true h)
    unfold pyD
    exact ⟨by simp only [PyData.leavesShort]; exact decide_eq_true h.1, by simp only [PyData.showable]; exact decide_eq_true h.2⟩
  | .str x, h => by
    unfold tinyB at h
    unfold pyD
    exact ⟨by simp only [PyData.leavesShort]; exact h, by simp only [PyData.showable]⟩
  | .tup ds, h => by
    unfold tinyB at h
    obtain ⟨a, b⟩ := tiny_pdL h
    unfold pyD
    exact ⟨by simp only [PyData.leavesShort]; exact a, by simp only [PyData.showable]; exact b⟩
  | .lst ds, h => by
    unfold tinyB at h
    obtain ⟨a, b⟩ := tiny_pdL h
    unfold pyD
    exact ⟨by simp only [PyData.leavesShort]; exact a, by simp only [PyData.showable]; exact b⟩
  | .dic ks ds, h => by
    unfold tinyB at h
    obtain ⟨a, b⟩ := Bool.and_eq_true_iff.mp h
    rw [List.isEmpty_iff.mp a, List.isEmpty_iff.mp b]
    unfold pyD pyL
    exact ⟨rfl, rfl⟩
  | .obj _ _ _, h => by unfold tinyB at h; cases h
  | .exc _ _ _, h => by unfold tinyB at h; cases h
  | .pen, h => by unfold tinyB at h; cases h
  | .clo _ _ _, h => by unfold tinyB at h; cases h
  | .fnA _, h => by unfold tinyB at h; cases h
  | .scr _ _ _, h => by unfold tinyB at h; cases h
theorem tiny_pdL : ∀ {ds : List D}, tinyL ds = true → PyData.leavesShortAll 202 (pyL ds) = true ∧ PyData.showableAll (pyL ds) = true
  | [], _ => by unfold pyL; exact ⟨rfl, rfl⟩
  | d :: ds, h => by
    unfold tinyL at h
    obtain ⟨h1, h2⟩ := Bool.and_eq_true_iff.mp h
    obtain ⟨a, b⟩ := tiny_pd h1
    obtain ⟨c, e⟩ := tiny_pdL h2
    unfold pyL
    simp only [PyData.leavesShortAll, PyData.showableAll, a, b, c, e, Bool.and_self, and_self]
end
theorem shows_of {d : D} (h1 : (flatD d || tupD d) = true) (h2 : tinyB d = true) (h3 : (pyD d).depth ≤ 40) (h4 : (pyD d).bulk ≤ 1000) : Shows d := by
  obtain ⟨a, b⟩ := tiny_pd h2
  have := PyData.shown_le_bulk 202 (by decide) (pyD d) a
  exact ⟨h1, b, h3, by rw [sizeLine_eq]; omega⟩
end DL


set_option maxRecDepth 100000
set_option maxHeartbeats 2000000
/-! DL15: promises from what the top has written. Own work over HandS. -/
namespace DL
open PySem PySem.Spec PyProof.Rows L2
/-- the i-th def of a class's text -/
def clsDef (i : Nat) : Stmt → Stmt
  | .ClassDef _ _ _ body _ _ _ _ _ _ _ => body.getD i (.Pass ⟨0, 0, 0, 0⟩)
  | s => s
section
variable {P : Program} {w : World} {K : PySem.W.Frag} {mg : Str → Option Value} {base h : Heap}
theorem defF_mk {x : Str} {st : Stmt} {ps : List Str} {f : Addr} {oc : Value} {od an : Option Addr} {osl : Array (Option Value)} {kV doc pm cdv ct : Value} (X : K.In h) (G : h.Ns mainGlobals mg) (a : PySem.W.nsIn K mainGlobals x = some (some (.ref f)))
    (l : K.lookup f = some ⟨oc, od, .func (PySem.W.fnOf x x (defArgs st) (defBody st) (defScope st) .none kV doc pm an cdv ct), osl⟩) (c : PySem.W.codeIn K cdv x = true) (k : PySem.W.keepIn K (.ref f) = true) (hb : ∀ fd, Fun K x x st f fd → Binds K fd ps []) : DefF K mg x st ps :=
  have F := fun_mk (st := st) l c k
  ⟨f, _, F, PySem.W.mg_of X G a, hb _ F⟩
/-- a class that is caught, fields of which are read -/
structure CatchF (K : PySem.W.Frag) (mg : Str → Option Value) (x : Str) (C : Addr) (it : List FIt) : Prop where
  m : mg x = some (.ref C)
  X : XfC K C
  no : ∀ y, (y, true) ∈ it → PySem.W.findIn K (.ref C) y = some none
theorem catchF_mk {x : Str} {C : Addr} {it : List FIt} (X : K.In h) (G : h.Ns mainGlobals mg) (a : PySem.W.nsIn K mainGlobals x = some (some (.ref C))) (b : xfB K C = true) (c : it.all (fun p => !p.2 || decide (PySem.W.findIn K (.ref C) p.1 = some none)) = true) : CatchF K mg x C it :=
  ⟨PySem.W.mg_of X G a, xfB_ok b, fun y hy => by
    have := List.all_eq_true.mp c _ hy
    simpa using this⟩
theorem oexC_mk {C : Addr} {nm q : Str} {N : Addr} {bs bm : List Value} {sn : List Str} {sub : List Value} {ab : Bool} {col : Option Bool} {dd : Option Addr} {m0 m1 m2 m3 m5 : Option Value} (xL : K.lookup C = some (excClassObj nm q C N bs bm true sn sub ab col dd m0 m1 m2 m3 m5 "ValueError.__new__")) (rv : PySem.HandSPX.refsVE bm = true)
    (sa : PySem.W.findIn K (.ref C) "__setattr__" = some (some (.builtin "object.__setattr__"))) (eC : PySem.W.subIn K (.ref C) (.type "BaseException") = some true) (tC : PySem.W.typeIn K (.ref C) = some (.type "type")) (kC : PySem.W.keepIn K (.ref C) = true) : OexC K C :=
  ⟨⟨nm, q, N, bs, bm, sn, sub, ab, col, dd, m0, m1, m2, m3, m5, xL, rv⟩, sa, eC, tC, kC⟩
theorem errG_mk {x qual msg : Str} {st : Stmt} {C f : Addr} {ps fs : List Str} {oc : Value} {od an : Option Addr} {osl : Array (Option Value)} {kV doc pm cdv ct : Value} (X : K.In h) (G : h.Ns mainGlobals mg) (a : PySem.W.nsIn K mainGlobals x = some (some (.ref C))) (T : OexC K C)
    (iC : PySem.W.findIn K (.ref C) "__init__" = some (some (.ref f))) (tI : PySem.W.typeIn K (.ref f) = some (.type "function")) (l : K.lookup f = some ⟨oc, od, .func (PySem.W.fnOf "__init__" qual (defArgs st) (defBody st) (defScope st) .none kV doc pm an cdv ct), osl⟩) (c : PySem.W.codeIn K cdv qual = true) (k : PySem.W.keepIn K (.ref f) = true)
    (no : fs.all (fun y => decide (PySem.W.findIn K (.ref C) y = some none)) = true) (hb : ∀ fd, Fun K "__init__" qual st f fd → Binds K fd ps []) (S : FnScope ps ps (defScope st)) (hf : fs ≠ []) (hps : ps.length = fs.length + 1) (hz : fs.length ≤ 800)
    (hbody : ∀ (cdv : Value) (A : Around) (outer : List Env) (s : Shared) (H : Hp) (E : XK), PSs (cxOf (L2.CX P w) P w K mg base ps qual (defScope st) f cdv A outer s H E) (defBody st) (tInit K msg fs)) : ErrG P w K mg base x C fs 1 :=
  have F := fun_mk (st := st) l c k
  ⟨f, _, ps, T, iC, tI, init_ok (k := 0) F S T hf hps hz (fun y hy => by
    have := List.all_eq_true.mp no _ hy
    simpa using this) hbody, hb _ F, PySem.W.mg_of X G a⟩
theorem baseInit_mk {CD : Addr} (ga : PySem.W.specialIn K (.ref CD) "__getattribute__" = some (some (.builtin "type.__getattribute__"))) (ty : PySem.W.typeIn K (.ref CD) = some (.type "type")) (rd : PySem.W.readsIn K CD (.type "type") = true) (fd : PySem.W.findCls K (.ref CD) (.type "type") "__init__" = some (.val (.builtin "ValueError.__init__"))) : BaseInit K CD := ⟨ga, ty, rd, fd⟩
end
end DL


set_option maxRecDepth 100000
set_option maxHeartbeats 2000000
/-! DL16: a module's number, chains, slices, zip, in, pop, products of lists. Own work over HandS. -/
namespace DL
open PySem PySem.Spec PyProof.Rows L2
section
variable {ι : Type} {X : ι → Cx} {W : WX}
/-! ### a module's number -/
theorem DE.glob {x : Str} {i : Int} {t : Tok} {pos : Pos} (hg : ∀ j, Gl (X j) x) (hm : ∀ j, (X j).mg x = some (.int i t)) (hd : (x == ("__debug__" : Str)) = false := by decide) : DE X W (.Name x pos) (fun _ => pure (.int i)) :=
  .const (fun j => pe_glob (v := .int i) (hg j) (hm j) ⟨t, rfl⟩ hd) fun _ _ => .int i
/-! ### a < b < c -/
theorem DE.chain {a b c : Expr} {op op' : CmpOp} {pos : Pos} {r r' : R2} {φ φ' : D → D → Wm D} {t u v : TD D} (ho : ∀ i, OpR (X i) (compareOp op) r) (ho' : ∀ i, OpR (X i) (compareOp op') r') (hr : Sem2 r φ) (hr' : Sem2 r' φ') (h1 : DE X W a t) (h2 : DE X W b u) (h3 : DE X W c v)
    (hm : lastMarks [op, op'] [b, c] = false := by with_unfolding_all rfl) :
    DE X W (.Compare a [op, op'] [b, c] pos) (fun ρ => do let x ← t ρ; let y ← u ρ; match ← calm (φ x y) with | .bl true => (do let z ← v ρ; calm (φ' y z)) | .bl false => pure (.bl false) | _ => Wm.fail) := by
  obtain ⟨te, p1, r1⟩ := h1
  obtain ⟨tu, p2, r2⟩ := h2
  obtain ⟨tv, p3, r3⟩ := h3
  refine ⟨_, fun i => pe_chain (ho i) (ho' i) (p1 i) (p2 i) (p3 i) hm, fun F H n σ ρ K Kx Q hs ht hq hx => ?_⟩
  refine r1 F H n σ ρ _ Kx _ hs ht (fun x d F1 H1 n1 g1 hv ht1 => ?_) hx
  refine r2 F1 H1 n1 σ ρ _ Kx _ (hs.mono g1) ht1 (fun y d2 F2 H2 n2 g2 hw ht2 => ?_) fun cls od xd F' H' n' g => hx cls od xd F' H' n' (g1.trans g)
  refine hr F2 H2 n2 x y d d2 _ _ g2.pb (hv.mono g2) hw ht2 fun z d3 F3 H3 n3 g3 hz ht3 => ?_
  cases hz with
  | bl k =>
    refine ⟨k, rfl, ?_⟩
    cases k with
    | false => exact iteF (hq _ _ F3 H3 n3 (g1.trans (g2.trans g3)) (.bl false) ht3)
    | true =>
      have g123 := g1.trans (g2.trans g3)
      refine iteT (r3 F3 H3 n3 σ ρ _ Kx _ (hs.mono g123) ht3 (fun z d4 F4 H4 n4 g4 hz4 ht4 => ?_) fun cls od xd F' H' n' g => hx cls od xd F' H' n' (g123.trans g))
      exact hr' F4 H4 n4 y z d2 d4 K Q g4.pb (hw.mono (g3.trans g4)) hz4 ht4 fun v5 d5 F5 H5 n5 g5 => hq v5 d5 F5 H5 n5 (g123.trans (g4.trans g5))
  | _ => exact ht3.elim
theorem DT.chain {a b c : Expr} {op op' : CmpOp} {pos : Pos} {r r' : R2} {φ φ' : D → D → Wm D} {t u v : TD D} (ho : ∀ i, OpR (X i) (compareOp op) r) (ho' : ∀ i, OpR (X i) (compareOp op') r') (hr : Sem2 r φ) (hr' : Sem2 r' φ') (h1 : DE X W a t) (h2 : DE X W b u) (h3 : DE X W c v)
    (hm : lastMarks [op, op'] [b, c] = false := by with_unfolding_all rfl) :
    DT X W (.Compare a [op, op'] [b, c] pos) (fun ρ => do let x ← t ρ; let y ← u ρ; match ← calm (φ x y) with | .bl true => (do let z ← v ρ; match ← calm (φ' y z) with | .bl b => pure b | _ => Wm.fail) | .bl false => pure false | _ => Wm.fail) := by
  obtain ⟨te, p1, r1⟩ := h1
  obtain ⟨tu, p2, r2⟩ := h2
  obtain ⟨tv, p3, r3⟩ := h3
  refine ⟨_, fun i => pt_chain (ho i) (ho' i) (p1 i) (p2 i) (p3 i) hm, fun F H n σ ρ K Kx Q hs ht hq hx => ?_⟩
  refine r1 F H n σ ρ _ Kx _ hs ht (fun x d F1 H1 n1 g1 hv ht1 => ?_) hx
  refine r2 F1 H1 n1 σ ρ _ Kx _ (hs.mono g1) ht1 (fun y d2 F2 H2 n2 g2 hw ht2 => ?_) fun cls od xd F' H' n' g => hx cls od xd F' H' n' (g1.trans g)
  refine hr F2 H2 n2 x y d d2 _ _ g2.pb (hv.mono g2) hw ht2 fun z d3 F3 H3 n3 g3 hz ht3 => ?_
  cases hz with
  | bl k =>
    refine ⟨k, rfl, ?_⟩
    cases k with
    | false => exact iteF ⟨false, rfl, hq false F3 H3 n3 (g1.trans (g2.trans g3)) ht3⟩
    | true =>
      have g123 := g1.trans (g2.trans g3)
      refine iteT (r3 F3 H3 n3 σ ρ _ Kx _ (hs.mono g123) ht3 (fun z d4 F4 H4 n4 g4 hz4 ht4 => ?_) fun cls od xd F' H' n' g => hx cls od xd F' H' n' (g123.trans g))
      refine hr' F4 H4 n4 y z d2 d4 _ _ g4.pb (hw.mono (g3.trans g4)) hz4 ht4 fun v5 d5 F5 H5 n5 g5 hv5 ht5 => ?_
      cases hv5 with
      | bl b => exact ⟨b, rfl, hq b F5 H5 n5 (g123.trans (g4.trans g5)) ht5⟩
      | _ => exact ht5.elim
  | _ => exact ht3.elim
/-! ### slices of tuples -/
def RunO (W : WX) (tl : TO) (t : TD (Option Int)) : Prop := ∀ (F : Addr → Prop) (H : Hp) (n : Nat) (σ : L2.St) (ρ : Env') (K : Option Int → Nat → Prop) (X : XD → Nat → Prop) (Q : Option Int → Hp → Prop), HasS F H n σ ρ → t ρ K X n →
  (∀ o F' H' n', Grow F H n F' H' n' → K o n' → Q o H') → (∀ cls od xd F' H' n', Grow F H n F' H' n' → HasX F' H' cls od xd → X xd n' → W cls od σ H') → tl σ H Q
structure DO {ι : Type} (X : ι → Cx) (W : WX) (e : Option Expr) (t : TD (Option Int)) : Prop where
  ex : ∃ tl, (∀ i, PO (X i) e tl) ∧ RunO W tl t
theorem DO.no : DO X W none (fun _ => pure none) := ⟨_, fun _ => po_none, fun F H n σ ρ K Kx Q hs ht hq _ => hq none F H n (.refl hs.pb) ht⟩
theorem DO.so {e : Expr} {t : TD D} (h : DE X W e t) : DO X W (some e) (fun ρ => do match ← t ρ with | .int i => pure (some i) | _ => Wm.fail) := by
  obtain ⟨te, p, r⟩ := h
  refine ⟨_, fun i => po_some (p i), fun F H n σ ρ K Kx Q hs ht hq hx => ?_⟩
  refine r F H n σ ρ _ Kx _ hs ht (fun v d F1 H1 n1 g1 hv ht1 => ?_) hx
  cases hv with
  | int i => exact ⟨i, rfl, hq _ F1 H1 n1 g1 ht1⟩
  | _ => exact ht1.elim
def cutD (ds : List D) (lo hi : Option Int) : List D := (ds.drop (HT.sIx ds.length 0 lo)).take (HT.sIx ds.length ds.length hi - HT.sIx ds.length 0 lo)
def fCut (d : D) (lo hi : Option Int) : Wm D := match d with
  | .tup ds => pure (.tup (cutD ds lo hi))
  | .lst ds => pure (.lst (cutD ds lo hi))
  | _ => Wm.fail
theorem HasL.drop {F : Addr → Prop} {H : Hp} : ∀ {vs : List V} {ds : List D} (k : Nat), HasL F H vs ds → HasL F H (vs.drop k) (ds.drop k)
  | _, _, 0, h => h
  | _, _, k + 1, .nil => .nil
  | _, _, k + 1, .cons _ l => HasL.drop k l
theorem HasL.take {F : Addr → Prop} {H : Hp} : ∀ {vs : List V} {ds : List D} (k : Nat), HasL F H vs ds → HasL F H (vs.take k) (ds.take k)
  | _, _, 0, _ => .nil
  | _, _, k + 1, .nil => .nil
  | _, _, k + 1, .cons h l => .cons h (HasL.take k l)
theorem DE.sl {e : Expr} {lo hi : Option Expr} {t : TD D} {tl th : TD (Option Int)} {pos p2 : Pos} {K : PySem.W.Frag} (hK : ∀ i, (X i).K = K) (h : DE X W e t) (hl : DO X W lo tl) (hh : DO X W hi th) :
    DE X W (.Subscript e (.Slice lo hi none p2) pos) (fun ρ => do let d ← t ρ; let l ← tl ρ; let u ← th ρ; fCut d l u) := by
  obtain ⟨te, p, r⟩ := h
  obtain ⟨a, pl, rl⟩ := hl
  obtain ⟨b, ph, rh⟩ := hh
  refine ⟨tSl (fun x lo hi H Q => rSlA K x lo hi H Q ∨ rSlL K x lo hi H Q) te a b, fun i => by rw [← hK i]; exact pe_slice (sl_tupA.or sl_list) (p i) (pl i) (ph i), fun F H n σ ρ Kd Kx Q hs ht hq hx => ?_⟩
  refine r F H n σ ρ _ Kx _ hs ht (fun v d F1 H1 n1 g1 hv ht1 => ?_) hx
  refine rl F1 H1 n1 σ ρ _ Kx _ (hs.mono g1) ht1 (fun l F2 H2 n2 g2 ht2 => ?_) fun cls od xd F' H' n' g => hx cls od xd F' H' n' (g1.trans g)
  refine rh F2 H2 n2 σ ρ _ Kx _ (hs.mono (g1.trans g2)) ht2 (fun u F3 H3 n3 g3 ht3 => ?_) fun cls od xd F' H' n' g => hx cls od xd F' H' n' (g1.trans (g2.trans g))
  have g := g1.trans (g2.trans g3)
  have hv3 := hv.mono (g2.trans g3)
  cases hv3 with
  | @tup a vs ds f ha hl =>
    have ht3 : Kd (.tup (cutD ds l u)) n3 := ht3
    unfold cutD at ht3
    rw [← hl.len] at ht3
    refine .inl ⟨a, vs, rfl, .of ha, fun e => ?_, fun _ q hp => ?_⟩
    · rw [e.1, e.2, Nat.sub_zero, List.drop_zero, List.take_of_length_le (by rw [hl.len]; exact Nat.le_refl _)] at ht3
      exact hq _ (.tup ds) F3 H3 n3 g (.tup f ha hl) ht3
    · have g4 : Grow F3 H3 n3 (plusF F3 q) (upd H3 q (.tup (cutV vs l u))) n3 := .laid g.pb hp .tup
      exact hq _ _ _ _ n3 (g.trans g4) (.tup plusF_same upd_same (((hl.drop _).take _).mono g4)) ht3
  | @lst a vs ds f ha hl =>
    have ht3 : Kd (.lst (cutD ds l u)) n3 := ht3
    unfold cutD at ht3
    rw [← hl.len] at ht3
    refine .inr ⟨a, vs, rfl, .of ha, fun q hp => ?_⟩
    have g4 : Grow F3 H3 n3 (plusF F3 q) (upd H3 q (.lst (cutV vs l u))) n3 := .laid g.pb hp .lst
    exact hq _ _ _ _ n3 (g.trans g4) (.lst plusF_same upd_same (((hl.drop _).take _).mono g4)) ht3
  | _ => exact ht3.elim
/-! ### list * int -/
def fMul : D → D → Wm D
  | .int i, .int j => do Wm.need (CMulW i j); pure (.int (i * j))
  | .lst ds, .int k => do Wm.need (-(2 ^ 63) ≤ k ∧ k < 2 ^ 63 ∧ Fits (ds.length * k.toNat)); pure (.lst (List.replicate k.toNat ds).flatten)
  | _, _ => Wm.fail
def rMulA : R2 := fun x y H Q => (∃ i j, x = .int i ∧ y = .int j ∧ CMulW i j ∧ Q (.int (i * j)) H) ∨ rRep x y H Q
theorem op_mulA {X : Cx} : OpR X (binaryOp .Mult) rMulA := op_mulW.or op_rep
theorem HasL.reps {F : Addr → Prop} {H : Hp} {vs : List V} {ds : List D} (h : HasL F H vs ds) : ∀ k : Nat, HasL F H (List.replicate k vs).flatten (List.replicate k ds).flatten
  | 0 => .nil
  | k + 1 => by
    rw [List.replicate_succ, List.replicate_succ, List.flatten_cons, List.flatten_cons]
    exact h.app (HasL.reps h k)
theorem sem_mulA : Sem2 rMulA fMul := by
  intro F H n x y a b Kd Q pb hx hy ht hq
  cases hx <;> cases hy <;> first | exact ht.elim | skip
  case int.int i j => exact .inl ⟨i, j, rfl, rfl, ht.1, hq _ _ F H n (.refl pb) (.int _) ht.2⟩
  case lst.int a vs ds f ha hl k =>
    refine .inr ⟨a, k, vs, rfl, rfl, ha, ht.1.1, ht.1.2.1, by rw [hl.len]; exact ht.1.2.2, fun p hp => ?_⟩
    have g : Grow F H n (plusF F p) (upd H p (.lst (List.replicate k.toNat vs).flatten)) n := .laid pb hp .lst
    exact hq _ _ _ _ n g (.lst plusF_same upd_same ((hl.reps _).mono g)) ht.2
/-! ### zip of two lists -/
def zipOf : List D → Wm (List D)
  | [.lst xs, .lst ys] => pure ((xs.zip ys).map fun p => .tup [p.1, p.2])
  | _ => Wm.fail
theorem yld_zip {K : PySem.W.Frag} {F : Addr → Prop} {H : Hp} {n : Nat} {a b : Addr} {vs ws : List V} {ds es : List D} (fa : F a) (ha : H a = some (.lst vs)) (hl : HasL F H vs ds) (fb : F b) (hb : H b = some (.lst ws)) (hm : HasL F H ws es) :
    Yld (Itz K a b) F H n ((ds.zip es).map fun p => .tup [p.1, p.2]) where
  stop := fun i F' H' n' l hi => ⟨vs, ws, .of (l.keepL fa ha .lst), .of (l.keepL fb hb .lst), by
    rw [List.length_map, List.length_zip] at hi
    rw [hl.len, hm.len]
    omega⟩
  go := fun i d F' H' n' l pb e => by
    rw [List.getElem?_map] at e
    obtain ⟨p, e1, e2⟩ := Option.map_eq_some_iff.mp e
    obtain ⟨h1, h2⟩ := List.getElem?_zip_eq_some.mp e1
    obtain ⟨v, q1, hv⟩ := (hl.later l).get h1
    obtain ⟨w, q2, hw⟩ := (hm.later l).get h2
    have ha' : SqL K H' a vs := .of (l.keepL fa ha .lst)
    have hb' : SqL K H' b ws := .of (l.keepL fb hb .lst)
    refine ⟨⟨vs, ws, v, w, ha', hb', q1, q2⟩, fun x H'' y => ?_⟩
    obtain ⟨T, x1, y1, rfl, hT, rfl, y2, y3⟩ := y
    have z1 := y2 vs ha'
    have z2 := y3 ws hb'
    rw [q1] at z1
    rw [q2] at z2
    cases z1
    cases z2
    have g : Grow F' H' n' (plusF F' T) (upd H' T (.tup [v, w])) n' := .laid pb hT .tup
    subst e2
    exact ⟨_, g, .tup plusF_same upd_same (.cons (hv.mono g) (.cons (hw.mono g) .nil))⟩
theorem DI.zip {a b : Expr} {t : TD (List D)} {p pos tpos : Pos} {elts : List Expr} {kk : Nat} {K : PySem.W.Frag} (hK : ∀ i, (X i).K = K) (hg : ∀ i, Gl (X i) "zip") (hm : ∀ i, (X i).mg "zip" = none) (h : DA X W [a, b] t)
    (hs : ∀ i, starEach [a, b] (X i).env = (false, eval a (X i).env) :: starEach [b] (X i).env := by intro _; rfl) (hpl : ∀ i, (backTo pos (starEach [b] (X i).env)).any (·.1) = false := by intro _; rfl) :
    DI X W (.Tuple elts kk tpos) (.Call (.Name "zip" p) [a, b] [] pos) (fun ρ => do zipOf (← t ρ)) := by
  obtain ⟨ta, pa, r⟩ := h
  refine ⟨iZip K ta, fun i => by rw [← hK i]; exact pi_zip (hg i) (hm i) (pa i) (hs i) (hpl i), fun F H n σ ρ Kd Kx R hs ht hq hx => ?_⟩
  refine r F H n σ ρ _ Kx _ hs ht (fun vs ds F1 H1 n1 g1 hv ht1 => ?_) hx
  cases hv with
  | nil => exact ht1.elim
  | cons h1 h2 =>
    cases h2 with
    | nil => cases h1 <;> exact ht1.elim
    | cons h2 h3 =>
      cases h3 with
      | cons _ _ => cases h1 <;> cases h2 <;> exact ht1.elim
      | nil =>
        cases h1 <;> cases h2 <;> first | exact ht1.elim | skip
        case lst.lst a vs ds fa ha hl b ws es fb hb hm =>
          exact ⟨a, b, vs, ws, rfl, .of ha, .of hb, hq _ _ F1 H1 n1 g1 (yld_zip fa ha hl fb hb hm) ht1⟩
/-! ### x in a tuple -/
def rInT (K : PySem.W.Frag) : R2 := fun x y H Q => ∃ d ds, Dp K H x d ∧ Dp K H y (.tuple ds) ∧ SeqAt.shaped d = true ∧ SeqAt.shaped (.tuple ds) = true ∧ Q (.bl (ds.any fun z => PyData.eqv z d)) H
theorem room_inT {A : Around} {d : PyData} {ds : List PyData} (h : SeqAt.shaped d = true) (hu : A.units + 65 < cLine) : A.units + 1 + min (PyData.depthAll ds) d.depth < cLine := by
  have h1 := SeqAt.depth_of_shaped h
  have h2 : min (PyData.depthAll ds) d.depth ≤ d.depth := Nat.min_le_right _ _
  omega
theorem op_inT {X : Cx} (hu : X.A.units + 65 < cLine) : OpR X (compareOp .In) (rInT X.K) := by
  intro pins s σ H x y v u Q I rx ry h
  obtain ⟨d, ds, hd, he, sd, se, q⟩ := h
  obtain ⟨as, r1⟩ := Dp.reads I d x v hd rx
  obtain ⟨bs, r2⟩ := Dp.reads I (.tuple ds) y u he ry
  have hl : PyData.canLayAll0 ds = true := by
    have := SeqAt.canLay_of_shaped se
    simpa [PyData.canLay0] using this
  exact SeqAt.in_tuple_reads r2 r1 hl (SeqAt.canLay_of_shaped sd) (room_inT sd hu) ⟨.bl _, H, I, rfl, q⟩
def fIn (d e : D) : Wm D := match e with
  | .tup es => do Wm.need (EqOk d ∧ EqOk (.tup es)); pure (.bl (es.any fun z => eqD z d))
  | _ => Wm.fail
theorem pyL_any {d : D} : ∀ es : List D, (pyL es).any (fun z => PyData.eqv z (pyD d)) = es.any fun z => eqD z d
  | [] => by unfold pyL; rfl
  | e :: es => by unfold pyL; rw [List.any_cons, List.any_cons, pyL_any es]; rfl
theorem sem_inT {K : PySem.W.Frag} : Sem2 (rInT K) fIn := by
  intro F H n x y a b Kd Q pb hx hy ht hq
  cases b with
  | tup es =>
    obtain ⟨⟨⟨f1, s1⟩, f2, s2⟩, hk⟩ := ht
    have e : pyD (.tup es) = .tuple (pyL es) := by unfold pyD; rfl
    have dy := hy.dp (K := K) f2
    rw [e] at dy s2
    exact ⟨_, _, hx.dp f1, dy, s1, s2, by rw [pyL_any]; exact hq _ _ F H n (.refl pb) (.bl _) hk⟩
  | _ => exact ht.elim
/-! ### a list of one's own: len, pop, + -/
theorem DE.lenOwn {k : Nat} {o : Expr} {p pos : Pos} {K : PySem.W.Frag} (hK : ∀ i, (X i).K = K) (hg : ∀ i, Gl (X i) "len") (hm : ∀ i, (X i).mg "len" = none) (ho : ∀ i, PE (X i) o (tVar k))
    (hs : ∀ i, starEach [o] (X i).env = (false, eval o (X i).env) :: starEach [] (X i).env := by intro _; rfl) (hpl : ∀ i, (backTo pos (starEach [] (X i).env)).any (·.1) = false := by intro _; rfl) :
    DE X W (.Call (.Name "len" p) [o] [] pos) (fun ρ => match ρ[k]? with | some (some (.m ⟨none, .lst ds⟩)) => pure (.int ds.length) | _ => Wm.fail) := by
  refine ⟨tCB (rLen K) (tCons (tVar k) tNil), fun i => by rw [← hK i]; exact pe_callB call_lenA (hg i) (hm i) (by decide +kernel) (pa_cons (ho i) pa_nil (hs i)) (by decide) (by decide) (hs i) (hpl i), fun F H n σ ρ Kd Kx Q hs ht hq hx => ?_⟩
  have ht : (match ρ[k]? with | some (some (.m ⟨none, .lst ds⟩)) => (pure (.int ds.length) : Wm D) | _ => Wm.fail) Kd Kx n := ht
  match e : ρ[k]? with
  | some (some (.d _)) => rw [e] at ht; exact ht.elim
  | some none => rw [e] at ht; exact ht.elim
  | none => rw [e] at ht; exact ht.elim
  | some (some (.m x)) =>
    rw [e] at ht
    obtain ⟨at0, x⟩ := x
    cases at0 with
    | some _ => exact ht.elim
    | none =>
    cases x with
    | lst ds =>
      obtain ⟨v, e1, a, _, rfl, ha, ⟨vs, rfl, hl⟩, nf, _⟩ := hs.at_ k _ e
      exact ⟨.ref a, e1, .inl ⟨a, vs, rfl, .inl (.of ha), by rw [hl.len]; exact hq _ _ F H n (.refl hs.pb) (.int _) ht⟩⟩
    | _ => exact ht.elim
/-- target = x.pop() -/
def dPop (k : Nat) (g : TDG) : TDS := fun E ρ n => match ρ[k]? with
  | some (some (.m ⟨none, .lst ds⟩)) => match ds.getLast? with
    | some d => match g d (ρ.set k (some (.m ⟨none, .lst ds.dropLast⟩))) with
      | some ρ' => E.nx ρ' n
      | none => False
    | none => False
  | _ => False
theorem HasL.dropLast {F : Addr → Prop} {H : Hp} : ∀ {vs : List V} {ds : List D}, HasL F H vs ds → HasL F H vs.dropLast ds.dropLast
  | _, _, .nil => .nil
  | _, _, .cons h .nil => .nil
  | _, _, .cons h (.cons h2 l) => .cons h (HasL.dropLast (.cons h2 l))
theorem DS.pop {k : Nat} {tg o : Expr} {g : TDG} {us : List Nat} {p1 p2 pos : Pos} {K : PySem.W.Frag} (hK : ∀ i, (X i).K = K) (ho : ∀ i, PE (X i) o (tVar k)) (hg : DG X tg g us)
    (hp : ∀ i, PE (X i) (.Call (.Attribute o "pop" p1) [] [] p2) (tBM0 (X i).K "list" rPop (tVar k)))
    (hs : ∀ i, swapsWithSole [tg] (.Call (.Attribute o "pop" p1) [] [] p2) pos.line (X i).env = pure false := by intro _; rfl) (hw : ∀ i, swappedStores [tg] (.Call (.Attribute o "pop" p1) [] [] p2) (X i).env = pure none := by intro _; rfl)
    (h1 : ∀ i, (assignEach [tg] (X i).env).map (·.2) = [assign tg (X i).env] := by intro _; rfl) : DS X W (.Assign [tg] (.Call (.Attribute o "pop" p1) [] [] p2) pos) (dPop k g) := by
  obtain ⟨tgk, pg, rg⟩ := hg
  refine ⟨_, fun i => ps_asg (te := tBM0 K "list" rPop (tVar k)) (by rw [← hK i]; exact hp i) (pg i) (hs i) (hw i) (h1 i), fun B F H n σ ρ E Z s h eo => ?_⟩
  have h : (match ρ[k]? with
  | some (some (.m ⟨none, .lst ds⟩)) => match ds.getLast? with
    | some d => match g d (ρ.set k (some (.m ⟨none, .lst ds.dropLast⟩))) with
      | some ρ' => E.nx ρ' n
      | none => False
    | none => False
  | _ => False) := h
  match e : ρ[k]? with
  | some (some (.d _)) => rw [e] at h; exact h.elim
  | some none => rw [e] at h; exact h.elim
  | none => rw [e] at h; exact h.elim
  | some (some (.m x)) =>
    rw [e] at h
    obtain ⟨at0, x⟩ := x
    cases at0 with
    | some _ => exact h.elim
    | none =>
    cases x with
    | lst ds =>
      obtain ⟨v, e1, a, _, rfl, ha, ⟨vs, rfl, hl⟩, nf, _⟩ := s.hs.at_ k _ e
      cases q : ds.getLast? with
      | none => simp only [q] at h
      | some d =>
        simp only [q] at h
        have q2 : ds[ds.length - 1]? = some d := by rw [← List.getLast?_eq_getElem?]; exact q
        obtain ⟨y, q3, hy⟩ := hl.get q2
        refine ⟨.ref a, e1, .inl ⟨rfl, _, .of ha⟩, a, vs, y, rfl, rfl, ha, by rw [hl.len]; exact q3, ?_⟩
        obtain ⟨s2, l2⟩ := s.own_put e e1 ha nf hl.dropLast
        cases q4 : g d (ρ.set k (some (.m ⟨none, .lst ds.dropLast⟩))) with
        | none => rw [q4] at h; exact h.elim
        | some ρ' =>
          rw [q4] at h
          exact rg F _ n σ _ ρ' y d _ s2.hs (hy.out nf) q4 fun σ' s3 o => eo.nx σ' ρ' F _ n (s2.only s3 o) l2 h
    | _ => exact h.elim
/-- x = x + [e, ..] -/
def dOwnCat (k : Nat) (t : TD (List D)) : TDS := fun E ρ n => t ρ (fun es n' => match ρ[k]? with
  | some (some (.m ⟨none, .lst ds⟩)) => (Fits es.length ∧ Fits (ds.length + es.length)) ∧ E.nx (ρ.set k (some (.m ⟨none, .lst (ds ++ es)⟩))) n'
  | _ => False) (fun x n' => E.ex x ρ n') n
theorem DS.ownCat {k : Nat} {x : Str} {o : Expr} {es : List Expr} {t : TD (List D)} {p2 p3 pos pos' : Pos} (hN : ∀ i, (X i).N.Nodup) (hi : ∀ i, (X i).N[k]? = some x) (hx : ∀ i, Loc (X i).env.scope x) (ho : ∀ i, PE (X i) o (tVar k)) (h : DA X W es t)
    (hs : ∀ i, swapsWith (.BinOp o .Add (.List es p2) p3) (some (.Name x pos')) pos.line (X i).env = pure false := by intro _; rfl)
    (hf : ∀ i, (X i).fn x = true ∨ (X i).env.scope.names.lookup x = some .local := by first | exact fun _ => .inl rfl | exact fun _ => .inr rfl) : DS X W (.Assign [.Name x pos'] (.BinOp o .Add (.List es p2) p3) pos) (fun E ρ n => (∃ ds, ρ[k]? = some (some (.m ⟨none, .lst ds⟩))) ∧ dOwnCat k t E ρ n) := by
  obtain ⟨ta, p, r⟩ := h
  refine ⟨_, fun i => ps_set (i := k) (hN i) (hi i) (hx i) (pe_op op_cat (ho i) (pe_lst (p i))) (hs i) (hf i), fun B F H n σ ρ E D s h eo => ?_⟩
  obtain ⟨⟨ds, e⟩, h⟩ := h
  obtain ⟨v, e1, _⟩ := s.hs.at_ k _ e
  refine ⟨v, e1, ?_⟩
  refine r F H n σ ρ _ _ _ s.hs h (fun vs es' F' H' n' g hv hk => ?_) fun cls od xd F' H' n' g hx he => eo.ex cls od xd σ ρ F' H' n' (s.mono g) g.later hx he
  rw [e] at hk
  obtain ⟨⟨hk1, hk2⟩, hk⟩ := hk
  have s1 := s.mono g
  obtain ⟨v', e1', a, _, rfl, ha, ⟨ws, rfl, hl⟩, nf, _⟩ := s1.hs.at_ k _ e
  rw [e1] at e1'
  cases e1'
  refine ⟨by rw [hv.len]; exact hk1, fun b hb => ?_⟩
  have gb : Grow F' H' n' F' (upd H' b (.lst vs)) n' := ⟨(Grow.laid g.pb hb .lst).keep, fun _ f => f, fun _ f => .inl f, g.pb.put (g.pb.out hb) .lst, Nat.le_refl _⟩
  have hab : a ≠ b := fun z => by rw [z, hb] at ha; cases ha
  refine ⟨a, b, ws, vs, rfl, rfl, (upd_ne hab).trans ha, upd_same, by rw [hl.len, hv.len]; exact hk2, fun q hq => ?_⟩
  obtain ⟨s2, g2⟩ := (s1.mono gb).own_new (k := k) hq ((hl.mono gb).app (hv.mono gb))
  exact eo.nx _ _ F' _ n' s2 (g.later.trans (gb.later.trans g2.later)) hk
/-! ### a, b, c = x, y, z -/
def dPar3 (i j l : Nat) (t : TD (List D)) : TDS := fun E ρ n => t ρ (fun ds n' => match ds with
  | [d, e, f] => E.nx (((ρ.set i (some (.d d))).set j (some (.d e))).set l (some (.d f))) n'
  | _ => False) (fun x n' => E.ex x ρ n') n
theorem DS.par3 {i j l : Nat} {x y z : Str} {a b c : Expr} {ta : TD (List D)} {px py pz pt pos : Pos} {kt k2 pt2} (hc : ∀ k, (X k).calm = true) (hN : ∀ k, (X k).N.Nodup) (hi : ∀ k, (X k).N[i]? = some x) (hj : ∀ k, (X k).N[j]? = some y) (hl : ∀ k, (X k).N[l]? = some z) (hij : i ≠ j) (hil : i ≠ l) (hjl : j ≠ l)
    (hx : ∀ k, (X k).env.scope.names.lookup x = some .local) (hy : ∀ k, (X k).env.scope.names.lookup y = some .local) (hz : ∀ k, (X k).env.scope.names.lookup z = some .local) (ha : DA X W [a, b, c] ta)
    (hw : ∀ k, swappedStores [.Tuple [.Name x px, .Name y py, .Name z pz] kt pt] (.Tuple [a, b, c] k2 pt2) (X k).env = pure (some [x, y, z]))
    (hs : ∀ k, swapsWithSole [.Tuple [.Name x px, .Name y py, .Name z pz] kt pt] (.Tuple [a, b, c] k2 pt2) pos.line (X k).env = pure false := by intro _; rfl) :
    DS X W (.Assign [.Tuple [.Name x px, .Name y py, .Name z pz] kt pt] (.Tuple [a, b, c] k2 pt2) pos) (dPar3 i j l ta) := by
  obtain ⟨tA, p, r⟩ := ha
  refine ⟨_, fun k => ps_par3 (hc k) (hN k) (hi k) (hj k) (hl k) hij hil hjl (hx k) (hy k) (hz k) (p k) (hw k) (hs k), fun B F H n σ ρ E Z s h eo => ?_⟩
  refine r F H n σ ρ _ _ _ s.hs h (fun vs ds F' H' n' g hv hk => ?_) fun cls od x F' H' n' g hx he => eo.ex cls od x σ ρ F' H' n' (s.mono g) g.later hx he
  match ds, hk with
  | [d, e, f], hk =>
    cases hv with
    | cons h1 hv =>
    cases hv with
    | cons h2 hv =>
    cases hv with
    | cons h3 hv =>
    cases hv
    exact ⟨_, _, _, rfl, eo.nx _ _ F' H' n' ((((s.mono g).set h1).set h2).set h3) g.later hk⟩
end
/-! ### a loop by a measure -/
theorem whileD_inv {c : TD Bool} {tb : TDS} {E : DEnds} (I : Nat → Env' → Nat → Prop) (hs : ∀ (m : Nat) (ρ : Env') (n : Nat) (E' : DEnds), I m ρ n → (∀ m' ρ n, m' < m → I m' ρ n → E'.nx ρ n ∧ E'.ct ρ n) → (∀ ρ n, E.nx ρ n → E'.bk ρ n) → E'.rt = E.rt → E'.ex = E.ex →
    onT c (fun b ρ' n' => if b = true then tb E' ρ' n' else E.nx ρ' n') E ρ n) : ∀ (m : Nat) (ρ : Env') (n : Nat), I m ρ n → ∀ k, m < k → whileD c tb k E ρ n := by
  intro m
  induction m using Nat.strongRecOn with
  | _ m ih =>
    intro ρ n hi k hk
    cases k with
    | zero => omega
    | succ k =>
      unfold whileD
      exact hs m ρ n { E with nx := fun ρ'' n'' => whileD c tb k E ρ'' n'', ct := fun ρ'' n'' => whileD c tb k E ρ'' n'', bk := E.nx, nl := False } hi (fun m' ρ' n' hm hi' => ⟨ih m' hm ρ' n' hi' k (by omega), ih m' hm ρ' n' hi' k (by omega)⟩) (fun _ _ z => z) rfl rfl
theorem _root_.L2.Room.units65 {k : Nat} {A : Around} (r : Room k A) : A.units + 65 < cLine := by have := r.un; omega
end DL


set_option maxRecDepth 100000
set_option maxHeartbeats 2000000
/-! DL17: recursion's start, comprehensions as maps, rows of the new words. Own work. -/
namespace DL
open PySem PySem.Spec PyProof.Rows L2
theorem def_false {P : Program} {w : World} {K : PySem.W.Frag} {mg : Str → Option Value} {base : Heap} {x : Str} {st : Stmt} {ps : List Str} {k : Nat} {w' : List D → Wm D} (F : DefF K mg x st ps) (h : ∀ ds Kd Kx n, w' ds Kd Kx n → False) : DefG P w K mg base x ps k w' := by
  obtain ⟨f, fd, F, m, b⟩ := F.ex
  exact ⟨f, fd, ⟨fun vs H Q E hs => hs.1, fun A outer s H args us vs Q E _ _ _ _ _ hs => by
    obtain ⟨_, F0, n, ds, Kd, Kx, _, _, hw, _⟩ := hs
    exact (h _ _ _ _ hw).elim⟩, m, F.kp, b⟩
theorem DefG.mono {P : Program} {w : World} {K : PySem.W.Frag} {mg : Str → Option Value} {base : Heap} {x : Str} {ps : List Str} {j k : Nat} {w' : List D → Wm D} (h : DefG P w K mg base x ps j w') (hk : j ≤ k) : DefG P w K mg base x ps k w' := by
  obtain ⟨f, fd, F, m, q, b⟩ := h.ex
  exact ⟨f, fd, F.mono hk, m, q, b⟩
/-- the same def by a promise that asks more -/
theorem DefG.imp {P : Program} {w : World} {K : PySem.W.Frag} {mg : Str → Option Value} {base : Heap} {x : Str} {ps : List Str} {k : Nat} {w1 w2 : List D → Wm D} (h : DefG P w K mg base x ps k w1) (hi : ∀ ds Kd Kx n, w2 ds Kd Kx n → w1 ds Kd Kx n) : DefG P w K mg base x ps k w2 := by
  obtain ⟨f, fd, F, m, q, b⟩ := h.ex
  exact ⟨f, fd, F.imp fun vs H Q E ⟨a, F0, n, ds, Kd, Kx, pb, hv, hw, r⟩ => ⟨a, F0, n, ds, Kd, Kx, pb, hv, hi _ _ _ _ hw, r⟩, m, q, b⟩
/-- a comprehension that calls no pen -/
theorem lcD_map {g : TDG} {te : TD D} {f : D → D} {ρ : Env'} {n : Nat} {X : XD → Nat → Prop} : ∀ (ts acc : List D) (K : List D → Nat → Prop), acc.length + ts.length < sizeLine → (∀ t ∈ ts, ∃ ρ', g t ρ = some ρ' ∧ ∀ K : D → Nat → Prop, K (f t) n → te ρ' K XFalse n) → K (acc ++ ts.map f) n → lcD g (fun _ => pure true) te ts ρ acc K X n
  | [], acc, K, _, _, hk => by
    have hk : K (acc ++ []) n := hk
    rw [List.append_nil] at hk
    exact hk
  | t :: ts, acc, K, hl, h, hk => by
    obtain ⟨ρ', e, ht⟩ := h t List.mem_cons_self
    rw [List.length_cons] at hl
    unfold lcD
    rw [e]
    refine ht _ ⟨by omega, ?_⟩
    refine lcD_map ts (acc ++ [f t]) K (by simp; omega) (fun t' ht' => h t' (List.mem_cons_of_mem _ ht')) ?_
    rw [List.append_assoc]
    exact hk
/-- a loop, by what is left of the list -/
theorem forD_list {g : TDG} {tb : TDS} {E : DEnds} (I : List D → Env' → Nat → Prop) : ∀ (ds : List D) (ρ : Env') (n : Nat), I ds ρ n → (∀ ρ n, I [] ρ n → E.nx ρ n) →
    (∀ (d : D) (ds : List D) (ρ : Env') (n : Nat) (E' : DEnds), I (d :: ds) ρ n → (∀ ρ n, I ds ρ n → E'.nx ρ n) → (∀ ρ n, E.nx ρ n → E'.bk ρ n) → E'.rt = E.rt → E'.ex = E.ex → match g d ρ with | some ρ' => tb E' ρ' n | none => False) → forD g tb ds E ρ n
  | [], ρ, n, h, h0, _ => h0 ρ n h
  | d :: ds, ρ, n, h, h0, hs => by
    have z := hs d ds ρ n { E with nx := fun ρ'' n'' => forD g tb ds E ρ'' n'', ct := fun ρ'' n'' => forD g tb ds E ρ'' n'', bk := E.nx, nl := False } h (fun ρ n hi => forD_list I ds ρ n hi h0 hs) (fun _ _ z => z) rfl rfl
    unfold forD
    exact z
/-- .. of a list of known items by their images -/
theorem forD_map {α : Type} {g : TDG} {tb : TDS} {E : DEnds} (f : α → D) (I : List α → Env' → Nat → Prop) : ∀ (xs : List α) (ρ : Env') (n : Nat), I xs ρ n → (∀ ρ n, I [] ρ n → E.nx ρ n) →
    (∀ (x : α) (xs : List α) (ρ : Env') (n : Nat) (E' : DEnds), I (x :: xs) ρ n → (∀ ρ n, I xs ρ n → E'.nx ρ n) → E'.rt = E.rt → E'.ex = E.ex → match g (f x) ρ with | some ρ' => tb E' ρ' n | none => False) → forD g tb (xs.map f) E ρ n
  | [], ρ, n, h, h0, _ => h0 ρ n h
  | x :: xs, ρ, n, h, h0, hs => by
    have z := hs x xs ρ n { E with nx := fun ρ'' n'' => forD g tb (xs.map f) E ρ'' n'', ct := fun ρ'' n'' => forD g tb (xs.map f) E ρ'' n'', bk := E.nx, nl := False } h (fun ρ n hi => forD_map f I xs ρ n hi h0 hs) rfl rfl
    rw [List.map_cons]
    unfold forD
    exact z
theorem s_par3 {i j l : Nat} {t : TD (List D)} {E : DEnds} {ρ : Env'} {n : Nat} : dPar3 i j l t E ρ n = t ρ (fun ds n' => match ds with
  | [d, e, f] => E.nx (((ρ.set i (some (.d d))).set j (some (.d e))).set l (some (.d f))) n'
  | _ => False) (fun x n' => E.ex x ρ n') n := rfl
theorem fCut_lst {ds : List D} {lo hi : Option Int} {K : D → Nat → Prop} {X : XD → Nat → Prop} {n : Nat} : fCut (.lst ds) lo hi K X n = K (.lst (cutD ds lo hi)) n := rfl
theorem fCut_at {ds : List D} {lo hi : Option Int} {K : D → Nat → Prop} {X : XD → Nat → Prop} {n : Nat} : fCut (.tup ds) lo hi K X n = K (.tup (cutD ds lo hi)) n := rfl
theorem fAdd_lst {xs ys : List D} {K : D → Nat → Prop} {X : XD → Nat → Prop} {n : Nat} : fAdd (.lst xs) (.lst ys) K X n = (Fits (xs.length + ys.length) ∧ K (.lst (xs ++ ys)) n) := rfl
theorem fAdd_tup {xs ys : List D} {K : D → Nat → Prop} {X : XD → Nat → Prop} {n : Nat} : fAdd (.tup xs) (.tup ys) K X n = (Fits (xs.length + ys.length) ∧ K (.tup (xs ++ ys)) n) := rfl
theorem fList_lst {xs : List D} {K : D → Nat → Prop} {X : XD → Nat → Prop} {n : Nat} : fList [.lst xs] K X n = K (.lst xs) n := rfl
theorem fList_tup {xs : List D} {K : D → Nat → Prop} {X : XD → Nat → Prop} {n : Nat} : fList [.tup xs] K X n = K (.lst xs) n := rfl
theorem fTuple_lst {xs : List D} {K : D → Nat → Prop} {X : XD → Nat → Prop} {n : Nat} : fTuple [.lst xs] K X n = K (.tup xs) n := rfl
theorem fMul_lst {xs : List D} {k : Int} {K : D → Nat → Prop} {X : XD → Nat → Prop} {n : Nat} : fMul (.lst xs) (.int k) K X n = ((-(2 ^ 63) ≤ k ∧ k < 2 ^ 63 ∧ Fits (xs.length * k.toNat)) ∧ K (.lst (List.replicate k.toNat xs).flatten) n) := rfl
theorem items_lst {xs : List D} {K : List D → Nat → Prop} {X : XD → Nat → Prop} {n : Nat} : itemsOf (.lst xs) K X n = K xs n := rfl
theorem items_tup {xs : List D} {K : List D → Nat → Prop} {X : XD → Nat → Prop} {n : Nat} : itemsOf (.tup xs) K X n = K xs n := rfl
theorem range2_at {i j : Int} {K : List D → Nat → Prop} {X : XD → Nat → Prop} {n : Nat} : rangeOf2 [.int i, .int j] K X n = ((Small62 i ∧ Small62 j) ∧ K (rangeD i (j - i).toNat) n) := rfl
theorem zip_at {xs ys : List D} {K : List D → Nat → Prop} {X : XD → Nat → Prop} {n : Nat} : zipOf [.lst xs, .lst ys] K X n = K ((xs.zip ys).map fun p => .tup [p.1, p.2]) n := rfl
theorem fIx_t {ds : List D} {i : Int} {d : D} {K : D → Nat → Prop} {X : XD → Nat → Prop} {n : Nat} (e : atI ds i = some d) : fIx (.tup ds) (.int i) K X n = K d n := by
  show (match atI ds i with
    | some d => (pure d : Wm D)
    | none => Wm.fail) K X n = _
  rw [e]
  rfl
theorem fIx_l {ds : List D} {i : Int} {d : D} {K : D → Nat → Prop} {X : XD → Nat → Prop} {n : Nat} (e : atI ds i = some d) : fIx (.lst ds) (.int i) K X n = K d n := by
  show (match atI ds i with
    | some d => (pure d : Wm D)
    | none => Wm.fail) K X n = _
  rw [e]
  rfl
theorem g_tup2 {i j : Nat} {d e : D} {ρ : Env'} : dgTup 2 (dgCons (dName i) (dgCons (dName j) dgNil)) (.tup [d, e]) ρ = some ((ρ.set i (some (.d d))).set j (some (.d e))) := rfl
theorem g_tup3 {i j l : Nat} {d e f : D} {ρ : Env'} : dgTup 3 (dgCons (dName i) (dgCons (dName j) (dgCons (dName l) dgNil))) (.tup [d, e, f]) ρ = some (((ρ.set i (some (.d d))).set j (some (.d e))).set l (some (.d f))) := rfl
theorem fNotN_at {d : D} {K : D → Nat → Prop} {X : XD → Nat → Prop} {n : Nat} : fNotN d .non K X n = K (.bl (!nonB d)) n := rfl
theorem fIsN_at {d : D} {K : D → Nat → Prop} {X : XD → Nat → Prop} {n : Nat} : fIsN d .non K X n = K (.bl (nonB d)) n := rfl
theorem s_lc {ti : TD (List D)} {g : TDG} {tt : TD Bool} {te : TD D} {vs : List Nat} {ρ : Env'} {K : D → Nat → Prop} {X : XD → Nat → Prop} {n : Nat} : dLc ti g tt te vs ρ K X n = ti ρ (fun ds n' => lcD g tt te ds (wipeD ρ vs) [] (fun ys n'' => K (.lst ys) n'') X n') X n := rfl
theorem cut_last {ds : List D} {d : D} : cutD (ds ++ [d]) none (some (-1)) = ds := by
  unfold cutD
  have e1 : HT.sIx (ds ++ [d]).length 0 none = 0 := rfl
  have e2 : HT.sIx (ds ++ [d]).length (ds ++ [d]).length (some (-1)) = ds.length := by
    show (if (-1 : Int) < 0 then ((-1 : Int) + ((ds ++ [d]).length : Int)).toNat else min (-1 : Int).toNat (ds ++ [d]).length) = _
    rw [if_pos (by decide), List.length_append]
    simp
    omega
  rw [e1, e2, List.drop_zero, Nat.sub_zero, List.take_left]
theorem cut_tail {d : D} {ds : List D} : cutD (d :: ds) (some 1) none = ds := by
  unfold cutD
  have e : HT.sIx (d :: ds).length 0 (some 1) = 1 := by unfold HT.sIx; simp
  have e2 : HT.sIx (d :: ds).length (d :: ds).length none = ds.length + 1 := by unfold HT.sIx; rfl
  rw [e, e2]
  simp
theorem cut_head {ds : List D} {k : Nat} (h : k ≤ ds.length) : cutD ds none (some (k : Int)) = ds.take k := by
  unfold cutD
  have e1 : HT.sIx ds.length 0 none = 0 := rfl
  rw [e1, HT.sIx_nat, List.drop_zero, Nat.sub_zero, Nat.min_eq_left h]
theorem atI_last {ds : List D} {d : D} : atI (ds ++ [d]) (-1) = some d := by
  unfold L2.atI L2.ixN
  rw [List.length_append]
  simp
  rw [if_pos (by omega)]
  have e : (-1 + ((ds.length : Int) + 1)).toNat = ds.length := by omega
  rw [e]
  simp
theorem fIx_last {ds : List D} {d : D} {K : D → Nat → Prop} {X : XD → Nat → Prop} {n : Nat} : fIx (.tup (ds ++ [d])) (.int (-1)) K X n = K d n := fIx_t atI_last
theorem lsub {l : Nat} : ((l + 1 : Nat) : Int) - 1 = (l : Int) := by omega
theorem atI_of {ds : List D} {k : Nat} {d : D} (h : ds[k]? = some d) : atI ds (k : Int) = some d := by
  have hk : k < ds.length := (List.getElem?_eq_some_iff.mp h).1
  unfold L2.atI L2.ixN
  simp
  rw [if_pos (by omega)]
  simpa using h
theorem bools_map : ∀ bs : List Bool, boolsOf (bs.map D.bl) = some bs
  | [] => rfl
  | b :: bs => by
    show (boolOf (.bl b)).bind (fun c => (boolsOf (bs.map D.bl)).map (c :: ·)) = _
    rw [bools_map bs]
    rfl
theorem fAll_bools {bs : List Bool} {K : D → Nat → Prop} {X : XD → Nat → Prop} {n : Nat} : fAll (fun bs => bs.all id) [D.lst (bs.map D.bl)] K X n = K (.bl (bs.all id)) n := by
  show (match boolsOf (bs.map D.bl) with
    | some bs => (pure (.bl (bs.all id)) : Wm D)
    | none => Wm.fail) K X n = _
  rw [bools_map]
  rfl
/-- of data of bounded depth, without dicts, objects, .. -/
def okDp : Nat → D → Bool
  | 0, _ => false
  | j + 1, d => match d with
    | .tup ds => decide (ds.length ≤ 1000) && ds.all (okDp j)
    | .lst ds => decide (ds.length ≤ 1000) && ds.all (okDp j)
    | .non => true
    | .bl _ => true
    | .int _ => true
    | .str _ => true
    | _ => false
mutual
/-- lists are tuples -/
def tupled : D → D
  | .tup ds => .tup (tupledL ds)
  | .lst ds => .tup (tupledL ds)
  | .non => .non
  | .bl b => .bl b
  | .int i => .int i
  | .str x => .str x
  | .dic ks ds => .dic ks ds
  | .obj C ns ds => .obj C ns ds
  | .exc C ns ds => .exc C ns ds
  | .pen => .pen
  | .clo b r ds => .clo b r ds
  | .fnA a => .fnA a
  | .scr K ns t => .scr K ns t
def tupledL : List D → List D
  | [] => []
  | d :: ds => tupled d :: tupledL ds
end
mutual
/-- tuples are lists -/
def listed : D → D
  | .tup ds => .lst (listedL ds)
  | .lst ds => .lst ds
  | .non => .non
  | .bl b => .bl b
  | .int i => .int i
  | .str x => .str x
  | .dic ks ds => .dic ks ds
  | .obj C ns ds => .obj C ns ds
  | .exc C ns ds => .exc C ns ds
  | .pen => .pen
  | .clo b r ds => .clo b r ds
  | .fnA a => .fnA a
  | .scr K ns t => .scr K ns t
def listedL : List D → List D
  | [] => []
  | d :: ds => listed d :: listedL ds
end
theorem tupledL_map : ∀ ds : List D, tupledL ds = ds.map tupled
  | [] => by unfold tupledL; rfl
  | d :: ds => by unfold tupledL; rw [tupledL_map ds]; rfl
theorem listedL_map : ∀ ds : List D, listedL ds = ds.map listed
  | [] => by unfold listedL; rfl
  | d :: ds => by unfold listedL; rw [listedL_map ds]; rfl
theorem s_pop {k : Nat} {g : TDG} {E : DEnds} {ρ : Env'} {n : Nat} {ds : List D} {d : D} (e : ρ[k]? = some (some (.m ⟨none, .lst (ds ++ [d])⟩))) : dPop k g E ρ n = match g d (ρ.set k (some (.m ⟨none, .lst ds⟩))) with | some ρ' => E.nx ρ' n | none => False := by
  unfold dPop
  rw [e]
  (simp only [List.getLast?_concat, List.dropLast_concat]) <;> rfl
theorem s_ownCat {k : Nat} {t : TD (List D)} {E : DEnds} {ρ : Env'} {n : Nat} : dOwnCat k t E ρ n = t ρ (fun es n' => match ρ[k]? with
  | some (some (.m ⟨none, .lst ds⟩)) => (Fits es.length ∧ Fits (ds.length + es.length)) ∧ E.nx (ρ.set k (some (.m ⟨none, .lst (ds ++ es)⟩))) n'
  | _ => False) (fun x n' => E.ex x ρ n') n := rfl
theorem okDp_tup {j : Nat} {ds : List D} (h : okDp (j + 1) (.tup ds) = true) : ds.length ≤ 1000 ∧ ∀ d ∈ ds, okDp j d = true := by
  have h : (decide (ds.length ≤ 1000) && ds.all (okDp j)) = true := h
  rw [Bool.and_eq_true] at h
  exact ⟨of_decide_eq_true h.1, List.all_eq_true.mp h.2⟩
theorem okDp_lst {j : Nat} {ds : List D} (h : okDp (j + 1) (.lst ds) = true) : ds.length ≤ 1000 ∧ ∀ d ∈ ds, okDp j d = true := by
  have h : (decide (ds.length ≤ 1000) && ds.all (okDp j)) = true := h
  rw [Bool.and_eq_true] at h
  exact ⟨of_decide_eq_true h.1, List.all_eq_true.mp h.2⟩
theorem baseL_of : ∀ {ds : List D}, (∀ d ∈ ds, baseD d = true) → baseL ds = true
  | [], _ => by unfold baseL; rfl
  | d :: ds, h => by
    unfold baseL
    rw [h d List.mem_cons_self, baseL_of fun e he => h e (List.mem_cons_of_mem _ he)]
    rfl
theorem okDp_base : ∀ {j : Nat} {d : D}, okDp j d = true → baseD d = true
  | 0, _, h => by cases h
  | j + 1, d, h => by
    cases d with
    | tup ds => unfold baseD; exact baseL_of fun d hd => okDp_base ((okDp_tup h).2 d hd)
    | lst ds => unfold baseD; exact baseL_of fun d hd => okDp_base ((okDp_lst h).2 d hd)
    | non => rfl
    | bl b => rfl
    | int i => rfl
    | str x => rfl
    | _ => cases h
theorem okDp_succ : ∀ {j : Nat} {d : D}, okDp j d = true → okDp (j + 1) d = true
  | 0, _, h => by cases h
  | j + 1, d, h => by
    cases d with
    | tup ds =>
      obtain ⟨h1, h2⟩ := okDp_tup h
      show (decide (ds.length ≤ 1000) && ds.all (okDp (j + 1))) = true
      rw [decide_eq_true h1, Bool.true_and, List.all_eq_true]
      exact fun d hd => okDp_succ (h2 d hd)
    | lst ds =>
      obtain ⟨h1, h2⟩ := okDp_lst h
      show (decide (ds.length ≤ 1000) && ds.all (okDp (j + 1))) = true
      rw [decide_eq_true h1, Bool.true_and, List.all_eq_true]
      exact fun d hd => okDp_succ (h2 d hd)
    | non => rfl
    | bl b => rfl
    | int i => rfl
    | str x => rfl
    | _ => cases h
theorem okDp_tupled : ∀ {j : Nat} {d : D}, okDp j d = true → okDp j (tupled d) = true
  | 0, _, h => by cases h
  | j + 1, d, h => by
    have key : ∀ ds : List D, ds.length ≤ 1000 → (∀ d ∈ ds, okDp j d = true) → okDp (j + 1) (.tup (tupledL ds)) = true := fun ds h1 h2 => by
      show (decide ((tupledL ds).length ≤ 1000) && (tupledL ds).all (okDp j)) = true
      rw [tupledL_map, List.length_map, decide_eq_true h1, Bool.true_and, List.all_eq_true]
      intro d hd
      obtain ⟨e, he, rfl⟩ := List.mem_map.mp hd
      exact okDp_tupled (h2 e he)
    cases d with
    | tup ds => obtain ⟨h1, h2⟩ := okDp_tup h; exact key ds h1 h2
    | lst ds => obtain ⟨h1, h2⟩ := okDp_lst h; exact key ds h1 h2
    | non => rfl
    | bl b => rfl
    | int i => rfl
    | str x => rfl
    | _ => cases h
theorem okDp_item {j : Nat} {ds : List D} {d : D} (h : okDp j (.tup ds) = true) (hd : d ∈ ds) : okDp j d = true := by
  cases j with
  | zero => cases h
  | succ j => exact okDp_succ ((okDp_tup h).2 d hd)
theorem isi_tupled {Kf : PySem.W.Frag} {d : D} {j : Nat} {K : D → Nat → Prop} {X : XD → Nat → Prop} {n : Nat} (h : okDp j d = true) : fIsi1 Kf (.type "tuple") (tupled d) K X n = K (.bl (tupB (tupled d))) n := isi_tuple (okDp_base (okDp_tupled h))
/-- a loop over a range, by its index -/
theorem forD_range {g : TDG} {tb : TDS} {E : DEnds} (I : Nat → Env' → Nat → Prop) (L : Nat) (ρ : Env') (n : Nat) (h : I 0 ρ n) (h0 : ∀ ρ n, I L ρ n → E.nx ρ n)
    (hs : ∀ (i : Nat) (ρ : Env') (n : Nat) (E' : DEnds), i < L → I i ρ n → (∀ ρ n, I (i + 1) ρ n → E'.nx ρ n) → E'.rt = E.rt → E'.ex = E.ex → match g (.int (i : Int)) ρ with | some ρ' => tb E' ρ' n | none => False) : forD g tb (rangeD 0 L) E ρ n := by
  unfold rangeD
  have e : (List.range L).map (fun j : Nat => D.int (0 + (j : Int))) = (List.range' 0 L).map fun j : Nat => D.int (j : Int) := by
    rw [List.range_eq_range']
    simp
  rw [e]
  refine forD_map (fun j : Nat => D.int (j : Int)) (fun rem ρ n => ∃ i, i ≤ L ∧ rem = List.range' i (L - i) ∧ I i ρ n) _ _ _ ⟨0, Nat.zero_le _, by rw [Nat.sub_zero], h⟩ (fun ρ n hi => ?_) (fun x xs ρ n E' hi hnx hrt hex => ?_)
  · obtain ⟨i, hi, e, h⟩ := hi
    have : i = L := by
      have := congrArg List.length e
      simp at this
      omega
    subst this
    exact h0 ρ n h
  · obtain ⟨i, hi, e, h⟩ := hi
    have hlt : i < L := by
      rcases Nat.lt_or_ge i L with h | h
      · exact h
      · rw [show L - i = 0 by omega] at e
        simp at e
    rw [show L - i = (L - (i + 1)) + 1 by omega, List.range'_succ] at e
    obtain ⟨e1, e2⟩ := List.cons.inj e
    subst e1
    exact hs x ρ n E' hlt h (fun ρ n hi => hnx ρ n ⟨x + 1, hlt, e2, hi⟩) hrt hex
theorem own_intro {k : Nat} {t : TD (List D)} {E : DEnds} {ρ : Env'} {n : Nat} (h : t ρ (fun ds n' => Fits ds.length ∧ E.nx (ρ.set k (some (.m ⟨none, .lst ds⟩))) n') (fun x n' => E.ex x ρ n') n) : dOwn k t E ρ n := h
theorem app_intro {k : Nat} {t : TD D} {E : DEnds} {ρ : Env'} {n : Nat} {ds : List D} (e : ρ[k]? = some (some (.m ⟨none, .lst ds⟩))) (h : t ρ (fun d n' => ds.length < sizeLine ∧ E.nx (ρ.set k (some (.m ⟨none, .lst (ds ++ [d])⟩))) n') (fun x n' => E.ex x ρ n') n) : dAppend k t E ρ n := by
  unfold dAppend
  rw [e]
  exact h
theorem frz_intro {k : Nat} {t : TDS} {E : DEnds} {ρ : Env'} {n : Nat} {ds : List D} (e : ρ[k]? = some (some (.m ⟨none, .lst ds⟩))) (h : t E (ρ.set k (some (.d (.lst ds)))) n) : dFreeze k t E ρ n := by
  unfold dFreeze
  rw [e]
  exact h
end DL


set_option maxRecDepth 100000
set_option maxHeartbeats 2000000
/-! DL18: defs as values, written pairs in a for. Own work. -/
namespace DL
open PySem PySem.Spec PyProof.Rows L2
section
variable {ι : Type} {X : ι → Cx} {W : WX}
/-- the name of a def, as a value -/
theorem DE.fnv {x : Str} {f : Addr} {pos : Pos} (hg : ∀ j, Gl (X j) x) (hm : ∀ j, (X j).mg x = some (.ref f)) (hd : (x == ("__debug__" : Str)) = false := by decide) : DE X W (.Name x pos) (fun _ => pure (.fnA f)) :=
  .const (fun j => pe_glob (v := .ref f) (hg j) (hm j) rfl hd) fun _ _ => .fnA f
end
/-- a lambda that captures nothing is a value as it lies -/
theorem Has.bare {F : Addr → Prop} {H : Hp} {v : V} {r : CloR} (e : r.cl = []) : Has F H v (.clo false r []) → Has F H v (.clo true r [])
  | .clo0 f h fc hc => .clo1 (vs := []) f h fc hc (by rw [e]; rfl) (by rw [e]; intro p hp; cases hp) .nil
end DL


set_option maxRecDepth 100000
set_option maxHeartbeats 2000000
/-! DL19: functions as values: captured, called with arguments. Own work over HandS (clo_okB, DE.tellB: as in DL8, DL9, for captured functions). -/
namespace DL
open PySem PySem.Spec PyProof.Rows L2

/-- plain, or a lambda that captures nothing -/
def bareB : D → Bool
  | .clo _ r ds => r.cl.isEmpty && ds.isEmpty
  | d => plainD d
theorem bare_plain : ∀ {d : D}, plainD d = true → bareB d = true := fun {d} h => by cases d <;> first | exact h | (unfold plainD at h; cases h)
section
variable {l : List Addr} {F F' : Addr → Prop} {H H' f : Hp} {n n' : Nat}
theorem Has.cutB {P : Program} {w : World} {h : Heap} (fx : Fixed l H) (ok : HOk P w H h) (hl : ∀ c ∈ l, ∃ o u, H c = some (FixO c o) ∧ o.data = .cell (some u)) {v : V} {d : D} (hv : Has F H v d) (e : bareB d = true) : Has (cutF l F) (DL.cut l H) v d := by
  have fo : ∀ {a : Addr} {r : CloR}, H a = some (FixO a r.obj) → a ∉ l := fun {a r} e1 z => by
    obtain ⟨o, u, e2, e3⟩ := hl a z
    have x1 := fixO_at ok e1
    have x2 := fixO_at ok e2
    rw [x1] at x2
    cases x2
    cases e3
  cases d with
  | clo b r ds =>
    have e' : (r.cl.isEmpty && ds.isEmpty) = true := e
    rw [Bool.and_eq_true, List.isEmpty_iff, List.isEmpty_iff] at e'
    obtain ⟨ec, rfl⟩ := e'
    cases hv with
    | clo0 Fa ha Fc hc => exact .clo0 ⟨Fa, fo ha⟩ ((cut_out (fo ha)).trans ha) ⟨Fc, cod_out ok hl hc⟩ ((cut_out (cod_out ok hl hc)).trans hc)
    | @clo1 _ _ vs _ Fa ha Fc hc hn hs hd =>
      have ev : vs = [] := by rw [ec] at hn; exact List.eq_nil_of_length_eq_zero hn
      subst ev
      exact .clo1 ⟨Fa, fo ha⟩ ((cut_out (fo ha)).trans ha) ⟨Fc, cod_out ok hl hc⟩ ((cut_out (cod_out ok hl hc)).trans hc) hn (by rw [ec]; intro p hp; cases hp) .nil
  | _ => exact hv.cut fx e
theorem HasL.cutB {P : Program} {w : World} {h : Heap} (fx : Fixed l H) (ok : HOk P w H h) (hl : ∀ c ∈ l, ∃ o u, H c = some (FixO c o) ∧ o.data = .cell (some u)) : ∀ {vs : List V} {ds : List D}, HasL F H vs ds → ds.all bareB = true → HasL (cutF l F) (DL.cut l H) vs ds
  | _, _, .nil, _ => .nil
  | _, _, .cons hv k, e => by
    rw [List.all_cons, Bool.and_eq_true] at e
    exact .cons (Has.cutB fx ok hl hv e.1) (HasL.cutB fx ok hl k e.2)
theorem Has.layB (hn : ∀ c ∈ l, H c = none) {v : V} {d : D} (hv : Has F H v d) (e : bareB d = true) : Has (layF l F) (DL.lay l f H) v d := by
  have off : ∀ {a : Addr} {u : HO}, H a = some u → a ∉ l := fun q z => by rw [hn _ z] at q; cases q
  cases d with
  | clo b r ds =>
    have e' : (r.cl.isEmpty && ds.isEmpty) = true := e
    rw [Bool.and_eq_true, List.isEmpty_iff, List.isEmpty_iff] at e'
    obtain ⟨ec, rfl⟩ := e'
    cases hv with
    | clo0 Fa ha Fc hc => exact .clo0 (.inl Fa) ((lay_out (off ha)).trans ha) (.inl Fc) ((lay_out (off hc)).trans hc)
    | @clo1 _ _ vs _ Fa ha Fc hc hl hs hd =>
      have ev : vs = [] := by rw [ec] at hl; exact List.eq_nil_of_length_eq_zero hl
      subst ev
      exact .clo1 (.inl Fa) ((lay_out (off ha)).trans ha) (.inl Fc) ((lay_out (off hc)).trans hc) hl (by rw [ec]; intro p hp; cases hp) .nil
  | _ => exact hv.lay hn e
end

/-! ### a lambda with parameters, that captures nothing -/
/-- what such a lambda's scope must be -/
structure CloScopeP (N : List Str) (r : CloR) : Prop where
  kind : r.scope.kind = .function
  co : r.scope.isCoroutine = false
  gen : r.scope.isGenerator = false
  own : ∀ y ∈ r.scope.names, y.2 ≠ .cell ∧ y.2 ≠ .free
  cl : r.cl = []
  nodup : N.Nodup
  par : ∀ x ∈ N, r.scope.names.lookup x = some .local
  bind : ∀ us : List Value, us.length = N.length → bindArgs (PySem.W.kla_fn "<lambda>" r.qual r.params r.body r.scope r.cl r.pm (.ref r.code) r.ctv) ⟨us, []⟩ = pure (N.zip us)
theorem lookup_mem_nodup {α : Type} {l : List (Str × α)} (nd : (l.map (·.1)).Nodup) : ∀ {y : Str} {c : α}, (y, c) ∈ l → l.lookup y = some c := by
  induction l with
  | nil => intro y c e; cases e
  | cons p l ih =>
    obtain ⟨z, d⟩ := p
    intro y c e
    rw [List.map_cons, List.nodup_cons] at nd
    rcases List.mem_cons.mp e with e | e
    · cases e
      simp [List.lookup]
    · have hy : y ∈ l.map (·.1) := List.mem_map.mpr ⟨_, e, rfl⟩
      have hne : y ≠ z := fun h => nd.1 (h ▸ hy)
      have hb : (y == z) = false := by simpa using hne
      simp only [List.lookup, hb]
      exact ih nd.2 e
theorem lookup_zip_rev {N : List Str} {us : List Value} (nd : N.Nodup) (hl : us.length = N.length) {i : Nat} {y : Str} {u : Value} (h1 : N[i]? = some y) (h2 : us[i]? = some u) : (N.zip us).reverse.lookup y = some u := by
  refine lookup_mem_nodup ?_ ?_
  · rw [List.map_reverse, List.map_fst_zip (by omega)]
    exact List.pairwise_reverse.mpr (nd.imp fun h => Ne.symm h)
  · rw [List.mem_reverse]
    exact List.mem_of_getElem? (i := i) (by rw [List.getElem?_zip_eq_some]; exact ⟨h1, h2⟩)
section
variable {P : Program} {w : World} {K : PySem.W.Frag} {mg : Str → Option Value} {base : Heap} {N : List Str} {r : CloR} {A : Around} {outer : List Env} {s : Shared} {H : Hp} {E : XK} {f : Addr} {vs : List V} {us : List Value}
theorem cloP_start (S : CloScopeP N r) (e0 : Env0 P w K mg base A outer s H) (hd : A.handled = none) (hl : us.length = N.length) (rv : Vals vs us)
    {h₁ : Heap} {tk : Nat} (hns : h₁.Ns s.heap.objs.size fun y => (N.zip us).reverse.lookup y) (kp : ∀ b o, s.heap.get? b = some o → h₁.get? b = some o) :
    Inv (cloCx P w K mg base N r A outer s H E f) [] (vs.map some) H { s with heap := h₁, toks := tk } := by
  have noA : ∀ b : Addr, b ∉ (cloCx P w K mg base N r A outer s H E f).ex := fun b z => absurd (show b ∈ ([] : List Addr) from z) (by simp)
  have nol : ∀ {y : Str} {c : Addr}, r.cl.lookup y = some c → False := fun {y c} e => by rw [S.cl] at e; cases e
  refine ⟨⟨e0.mod, S.kind, rfl, rfl, Nat.le_refl _, fun x y c e _ => (nol e).elim, fun y hy => ?_, fun y c z _ => ?_, fun _ => hd, Around.frames_deeper e0.frames, .inr ⟨rfl, rfl⟩, fun b z => absurd z (noA b), e0.bs, e0.bsz, fun b _ _ => noA b,
      fun b z => absurd z (noA b), e0.funs, e0.frf⟩,
    rfl, e0.bare, Un.kept kp, ⟨_, hns, fun i y v e1 e2 e3 => ?_⟩, fun y c e => (nol e).elim, e0.hok.fresh (Nat.le_refl _), fun y c e => (nol e).elim, fun q hq => absurd (show q ∈ ([] : List (Addr × Obj)) ++ [] from hq) (by simp), e0.hok.kept kp, ?_⟩
  · have hy : r.scope.names.lookup y = some .cell ∨ r.scope.names.lookup y = some .free := hy
    rcases hy with hy | hy
    · exact absurd rfl (S.own _ (PySem.mem_of_lookup hy)).1
    · exact absurd rfl (S.own _ (PySem.mem_of_lookup hy)).2
  · have z : false = true := z
    cases z
  · rw [List.getElem?_map] at e2
    obtain ⟨v', e4, e5⟩ := Option.map_eq_some_iff.mp e2
    cases e5
    obtain ⟨u, hu, ru⟩ := rv.get e4
    have hN : y ∈ N := List.mem_of_getElem? e1
    exact ⟨u, ru, .inl ⟨S.par y hN, lookup_zip_rev S.nodup hl e1 hu⟩⟩
  · show (vs.map some).length = N.length
    rw [List.length_map, rv.length, hl]
end
/-- what a lambda with parameters promises -/
def CloSpN (P : Program) (w : World) (K : PySem.W.Frag) (mg : Str → Option Value) (base : Heap) (k : Nat) (r : CloR) (m : List D → Wm D) : Prop :=
  ∀ (A : Around) (outer : List Env) (s : Shared) (H : Hp) (F : Addr → Prop) (n : Nat) (f : Addr) (us : List Value) (vs : List V) (ds : List D) (Kd : D → Nat → Prop) (Xd : XD → Nat → Prop) (Q : VK) (E : XK), A.guards = some [] → Room k A → Env0 P w K mg base A outer s H → PenB F H n → H f = some (FixO f r.obj) → H r.code = some (CodO r.code r.qual) → Vals vs us → HasL F H vs ds → m ds Kd Xd n →
    (∀ v d F' H' n', Grow F H n F' H' n' → Has F' H' v d → Kd d n' → Q v H') → (∀ cls od xd F' H' n', Grow F H n F' H' n' → HasX F' H' cls od xd → Xd xd n' → E cls od H') → codeAny (model P w) A (.call (.ref f) ⟨us, []⟩) (CR (L2.CX P w) outer P w H s Q E) s
theorem cloP_ok {P : Program} {w : World} {K : PySem.W.Frag} {mg : Str → Option Value} {base : Heap} {N : List Str} {r : CloR} {k : Nat} {t : TD D} (S : CloScopeP N r)
    (hbody : ∀ (A : Around) (outer : List Env) (s : Shared) (H : Hp) (E : XK) (f : Addr), A.guards = some [] → Room k (A.deeper (cloEnv r s.heap.objs.size f)) → DE (fun _ : Unit => cloCx P w K mg base N r A outer s H E f) (bW E) r.body t) :
    CloSpN P w K mg base (k + 1) r (fun ds Kd Xd n => ds.length = N.length ∧ t (ds.map fun d => some (.d d)) Kd Xd n) := by
  intro A outer s H F n f us vs ds Kd Xd Q E hg hr e0 pb hf hco rv hds ⟨hln, hm⟩ hq hx
  have hof : s.heap.get? f = some r.obj := fixO_at e0.hok hf
  have hcode : s.heap.CodeRec (.ref r.code) r.qual := by
    have x : ObjOk P w H s.heap r.code (.ext fun h => ∃ (oc : Obj) (vs : Array Value) (t : Tok), h.get? r.code = some oc ∧ oc.data = .fields vs ∧ vs[1]? = some (.str r.qual t)) := e0.hok _ _ hco
    obtain ⟨⟨oc, vs, t, a, b, c⟩, _⟩ := x
    exact ⟨r.code, oc, vs, t, rfl, a, b, c⟩
  have hul : us.length = N.length := by rw [← rv.length, hds.len, hln]
  refine PySem.W.kla_callFunE hr.depth hof rfl S.co S.gen rfl hcode ?_
  rw [S.bind us hul]
  refine wpAny_pure (wpAny_newFunctionEnv (fun y hy => (S.own y hy).1) (fun y hy => S.par y.1 (List.of_mem_zip hy).1) (fun h₁ hns hsb => ⟨(e0.mod.nolimit.keeps fun b o e => (e0.bs b o e).1).fresh _ hsb, ?_⟩) S.kind)
  show codeAny _ _ (.expr r.body (cloEnv r s.heap.objs.size f)) _ _
  have kp : ∀ b o, s.heap.get? b = some o → h₁.get? b = some o := fun b o e => hsb.extBut b o (Nat.ne_of_lt (Heap.lt_size e)) (Heap.get?_push_of_some _ e)
  have J : Inv (cloCx P w K mg base N r A outer s H E f) [] (vs.map some) H { s with heap := h₁, toks := s.toks + (N.zip us).length } := cloP_start S e0 hr.hd hul rv hns kp
  obtain ⟨te, pe, re⟩ := hbody A outer s H E f hg (hr.deeper _)
  have hps : HasS F H n (vs.map some) (ds.map fun d => some (.d d)) := ⟨pb, by rw [List.length_map, List.length_map, hds.len], fun i x e => by
    rw [List.getElem?_map] at e
    obtain ⟨d, e1, e2⟩ := Option.map_eq_some_iff.mp e
    cases e2
    obtain ⟨v, e3, hv⟩ := hds.get e1
    exact ⟨v, by rw [List.getElem?_map, e3]; rfl, hv⟩⟩
  have ht : te (vs.map some) H (fun v H' => ∃ d F' n', Grow F H n F' H' n' ∧ Has F' H' v d ∧ Kd d n') := re _ _ n _ _ Kd Xd _ hps hm (fun v d F' H' n' g hv hk => ⟨d, F', n', g, hv, hk⟩) fun cls od xd F' H' n' g hx' hk => hx cls od xd F' H' n' g hx' hk
  refine PySem.W.kla_codeExpr (wpAny_mono ((pe ()).run [] _ _ H _ J ht) (fun v s' hq' => ?_) fun e s' z => wpAny_mono (show wpAny _ _ _ _ _ _ from z) (fun _ s'' z => z) fun _ s'' z => z)
  obtain ⟨v', H', J', rv', d, F', n', g, hv, hk⟩ := hq'
  exact ⟨v', H', J'.os, J'.bare, J'.base, J'.hok, rv', hq v' d F' H' n' g hv hk⟩

/-! ### work(x, y) -/
/-- a function may be called -/
def keepD (K : PySem.W.Frag) : D → Prop
  | .fnA a => PySem.W.keepIn K (.ref a) = true
  | .clo _ _ _ => True
  | _ => False
def actW (P : Program) (w : World) (K : PySem.W.Frag) (mg : Str → Option Value) (base : Heap) (k : Nat) : D → List D → Wm D
  | .fnA a => fun ds Kd Xd n => ∃ (fd : FuncData) (ps : List Str) (w' : List D → Wm D), FnG P w K mg base k a fd ps (spD ds.length w') ∧ Binds K fd ps [] ∧ w' ds Kd Xd n
  | .clo _ r _ => fun ds Kd Xd n => ∃ m : List D → Wm D, CloSpN P w K mg base k r m ∧ m ds Kd Xd n
  | _ => fun _ => Wm.fail
/-- it stands where it may be called -/
def CallOk (K : PySem.W.Frag) (f : Addr) (H : Hp) : Prop := PySem.W.keepIn K (.ref f) = true ∨ ∃ r : CloR, H f = some (FixO f r.obj)
section
variable {ι : Type} {X : ι → Cx} {W : WX} {P : Program} {w : World} {K : PySem.W.Frag} {mg : Str → Option Value} {base : Heap}
theorem DE.actN {x : Str} {i k : Nat} {p1 p2 : Pos} {e : Expr} {es : List Expr} {t : TD (List D)} (hP : ∀ j, (X j).prog = P ∧ (X j).w = w ∧ (X j).K = K ∧ (X j).mg = mg ∧ (X j).base = base) (hgd : ∀ j, (X j).A.guards = some []) (hr : ∀ j, Room k (X j).A) (tk : ∀ j, Takes (X j) W) (hv : ∀ j, PE (X j) (.Name x p1) (tVar i)) (h : DA X W (e :: es) t)
    (he : plainE e = true := by rfl) (hpl : ∀ j, (backTo p2 (starEach es (X j).env)).any (·.1) = false := by intro _; rfl) :
    DE X W (.Call (.Name x p1) (e :: es) [] p2) (fun ρ => do let d ← getD i ρ; Wm.need (keepD K d); let ds ← t ρ; actW P w K mg base k d ds) := by
  obtain ⟨ta, pa, ra⟩ := h
  refine ⟨fun σ H Q => ∃ f : Addr, σ[i]? = some (some (.ref f)) ∧ CallOk K f H ∧ ta σ H fun vs H1 => (∀ r : CloR, H f = some (FixO f r.obj) → H1 f = some (FixO f r.obj)) ∧ ∀ (A : Around) (outer : List Env) (s : Shared) (us : List Value), A.guards = some [] → Room k A → Env0 P w K mg base A outer s H1 → Vals vs us → codeAny (model P w) A (.call (.ref f) ⟨us, []⟩) (CR (L2.CX P w) outer P w H1 s Q (WE W σ)) s, fun j => ⟨fun pins s σ H Q I h => ?_⟩, fun F H n σ ρ Kd Kx Q hs ht hq hx => ?_⟩
  · obtain ⟨f, h0, hok, hc⟩ := h
    obtain ⟨eP, ew, eK, em, eb⟩ := hP j
    subst eP ew eK em eb
    refine wpAny_Call_Name_kw (thn ((hv j).run pins s σ H (fun v H1 => v = .ref f ∧ H1 = H) I ⟨.ref f, h0, rfl, rfl⟩) fun u s1 ⟨v, H1, I1, r1, q1⟩ => ?_)
    obtain ⟨ev, eH⟩ := q1
    subst ev
    rw [eH] at I1
    obtain rfl : u = Value.ref f := r1
    have fin : ∀ {us : List Value} {s2 : Shared} {vs : List V} {H2 : Hp}, Inv (X j) pins σ H2 s2 → Vals vs us → (∀ (A : Around) (outer : List Env) (s : Shared) (us : List Value), A.guards = some [] → Room k A → Env0 (X j).prog (X j).w (X j).K (X j).mg (X j).base A outer s H2 → Vals vs us → codeAny (model (X j).prog (X j).w) A (.call (.ref f) ⟨us, []⟩) (CR (L2.CX (X j).prog (X j).w) outer (X j).prog (X j).w H2 s Q (WE W σ)) s) →
        wpAny (model (X j).prog (X j).w) (X j).A (PySem.call (.ref f) us) (EP (X j) pins σ Q) (X j).xe s2 := fun {us s2 vs H2} I2 r q => by
      refine wpAny_call (codeAny_mono (q (X j).A (X j).stack s2 us (hgd j) (hr j) I2.env0 r) fun res s' hq => ?_)
      match res, hq with
      | .error er, hq => exact passAt (tk j) σ pins H2 s2 er s' I2 hq
      | .ok (.ret u), hq => exact I2.after hq
    rcases hok with hk | ⟨r, hf⟩
    · refine PySem.W.callWith_K (h₀ := (X j).base) I1.ok.mod.kin hk (thn ((pa j).run p2 pins s1 σ H _ I1 hc) ?_) (star_plain he) (hpl j)
      rintro us s2 ⟨vs, H2, I2, r, hok2, q⟩
      exact ⟨I2.kIn, fin I2 r q⟩
    · refine PySem.W.callWith_F ⟨_, _, _, _, fixO_at I1.hok hf⟩ (thn ((pa j).run p2 pins s1 σ H _ I1 hc) ?_) (star_plain he) (hpl j)
      rintro us s2 ⟨vs, H2, I2, r2, hok2, q⟩
      exact ⟨⟨_, _, _, _, fixO_at I2.hok (hok2 r hf)⟩, fin I2 r2 q⟩
  · obtain ⟨d, e1, ht1⟩ := getD_run (show getD i ρ (fun d n' => (do Wm.need (keepD K d); let ds ← t ρ; actW P w K mg base k d ds : Wm D) Kd Kx n') Kx n from ht)
    obtain ⟨hkeep, ht2⟩ := ht1
    obtain ⟨v, e2, hv'⟩ := hs.at_ _ _ e1
    have hv' : Has F H v d := hv'
    cases d with
    | fnA a =>
      cases hv'
      refine ⟨a, e2, .inl hkeep, ra F H n σ ρ _ Kx _ hs ht2 (fun vs ds F1 H1 n1 g1 hvs ht3 => ⟨fun r e => g1.keepL e .ext, fun A outer s us hg hr e0 rv => ?_⟩) hx⟩
      obtain ⟨fd, ps, w', G, B, hw⟩ := ht3
      have hsp : spD ds.length w' vs H1 Q (WE W σ) := ⟨hvs.len, F1, n1, ds, Kd, Kx, g1.pb, hvs, hw, fun v d F2 H2 n2 g2 => hq v d F2 H2 n2 (g1.trans g2), fun cls od xd F' H' n' g => hx cls od xd F' H' n' (g1.trans g)⟩
      have hl : us.length = ps.length := by rw [← rv.length]; exact G.len _ _ _ _ hsp
      have bt := B s us (e0.mod.kin.keeps fun b o e => (e0.bs b o e).1) (by rw [List.append_nil]; exact hl)
      rw [List.append_nil] at bt
      exact G.run A outer s H1 ⟨us, []⟩ us vs Q _ hg hr e0 bt rv hsp
    | clo b r cs =>
      obtain ⟨f, rfl, hf, hco⟩ : ∃ f : Addr, v = .ref f ∧ H f = some (FixO f r.obj) ∧ H r.code = some (CodO r.code r.qual) := by
        cases hv' with
        | clo0 _ h1 _ h2 => exact ⟨_, rfl, h1, h2⟩
        | clo1 _ h1 _ h2 _ _ _ => exact ⟨_, rfl, h1, h2⟩
      refine ⟨f, e2, .inr ⟨r, hf⟩, ra F H n σ ρ _ Kx _ hs ht2 (fun vs ds F1 H1 n1 g1 hvs ht3 => ⟨fun r e => g1.keepL e .ext, fun A outer s us hg hr e0 rv => ?_⟩) hx⟩
      obtain ⟨m, sp, hm⟩ := ht3
      exact sp A outer s H1 F1 n1 f us vs ds Kd Kx Q _ hg hr e0 g1.pb (g1.keepL hf .ext) (g1.keepL hco .ext) rv hvs hm (fun v d F2 H2 n2 g2 => hq v d F2 H2 n2 (g1.trans g2)) (fun cls od xd F' H' n' g => hx cls od xd F' H' n' (g1.trans g))
    | _ => exact hkeep.elim
end
theorem clo_okB {P : Program} {w : World} {K : PySem.W.Frag} {mg : Str → Option Value} {base : Heap} {N : List Str} {r : CloR} {k : Nat} {ds : List D} {t : TD D} (S : CloScope N r) (hp : ds.all bareB = true)
    (hbody : ∀ (A : Around) (outer : List Env) (s : Shared) (H : Hp) (E : XK) (f : Addr), A.guards = some [] → Room k (A.deeper (cloEnv r s.heap.objs.size f)) → DE (fun _ : Unit => cloCx P w K mg base N r A outer s H E f) (bW E) r.body t) :
    CloSp P w K mg base (k + 1) r ds (t (ds.map fun d => some (.d d))) := by
  intro A outer s H F n f Kd Xd Q E hg hr e0 pb hf hm hq hx
  cases hf with
  | @clo1 _ _ vs _ Ff hf Fc hco hl hs hds =>
  -- the cells, cut out
  obtain ⟨l, hll⟩ : ∃ l, l = r.cl.map (·.2) := ⟨_, rfl⟩
  have inl : ∀ c ∈ l, ∃ p ∈ r.cl.zip vs, p.1.2 = c := fun c hc => by
    rw [hll] at hc
    obtain ⟨p, hp, e⟩ := List.mem_map.mp hc
    obtain ⟨i, hi, e2⟩ := List.mem_iff_getElem.mp hp
    have hv : vs[i]? = some vs[i] := List.getElem?_eq_getElem (by omega)
    exact ⟨(p, vs[i]), List.mem_of_getElem? (i := i) (by rw [List.getElem?_zip_eq_some]; exact ⟨by rw [List.getElem?_eq_getElem hi, e2], hv⟩), e⟩
  have hcell : ∀ c ∈ l, F c ∧ ∃ o u, H c = some (FixO c o) ∧ o.data = .cell (some u) := fun c hc => by
    obtain ⟨p, hp, rfl⟩ := inl c hc
    obtain ⟨a, u, o, _, dd, e⟩ := hs p hp
    exact ⟨a, o, u, e, dd⟩
  have fx : Fixed l H := fun c hc => let ⟨_, o, _, e, _⟩ := hcell c hc; ⟨o, e⟩
  have hF : ∀ c ∈ l, F c := fun c hc => (hcell c hc).1
  have hfr : ∀ c ∈ l, c ∉ frs outer := fun c hc z => by
    obtain ⟨o, e⟩ := fx c hc
    rw [e0.frf c z] at e
    cases e
  have hnb : ∀ c ∈ l, base.get? c = none := fun c hc => by
    cases q : base.get? c with
    | none => rfl
    | some o =>
      obtain ⟨o2, e⟩ := fx c hc
      rw [(e0.bs c o q).2] at e
      cases e
  have e1 : Env0 P w K mg base A outer s (cut l H) := ⟨e0.frames, e0.mod, fun b o e => ⟨(e0.bs b o e).1, by
    by_cases hb : b ∈ l
    · exact cut_in hb
    · rw [cut_out hb]; exact (e0.bs b o e).2⟩, e0.bsz, e0.funs, fun b hb => by
    by_cases hbl : b ∈ l
    · exact cut_in hbl
    · rw [cut_out hbl]; exact e0.frf b hb, hok_cut fx e0.hok, e0.bare⟩
  have hof : s.heap.get? f = some r.obj := fixO_at e0.hok hf
  have hcode : s.heap.CodeRec (.ref r.code) r.qual := by
    have x : ObjOk P w H s.heap r.code (.ext fun h => ∃ (oc : Obj) (vs : Array Value) (t : Tok), h.get? r.code = some oc ∧ oc.data = .fields vs ∧ vs[1]? = some (.str r.qual t)) := e0.hok _ _ hco
    obtain ⟨⟨oc, vs, t, a, b, c⟩, _⟩ := x
    exact ⟨r.code, oc, vs, t, rfl, a, b, c⟩
  refine PySem.W.kla_callFunE hr.depth hof rfl S.co S.gen rfl hcode ?_
  rw [S.bind]
  refine wpAny_pure (wpAny_newFunctionEnv (fun y hy => (S.own y hy).2) (fun y hy => absurd hy (by simp)) (fun h₁ hns hsb => ⟨(e0.mod.nolimit.keeps fun b o e => (e0.bs b o e).1).fresh _ hsb, ?_⟩) S.kind)
  show codeAny _ _ (.expr r.body (cloEnv r s.heap.objs.size f)) _ _
  have kp : ∀ b o, s.heap.get? b = some o → h₁.get? b = some o := fun b o e => hsb.extBut b o (Nat.ne_of_lt (Heap.lt_size e)) (Heap.get?_push_of_some _ e)
  let E' : XK := fun cls od H' => ∃ xd F' n', Grow (cutF l F) (cut l H) n F' H' n' ∧ HasX F' H' cls od xd ∧ Xd xd n'
  have J : Inv (cloCx P w K mg base N r A outer s (cut l H) E' f) [] (vs.map some) (cut l H) { s with heap := h₁, toks := s.toks + ([] : List (Str × Value)).length } :=
    clo_start S e1 hr.hd hl (fun p hp => let ⟨_, u, o, ru, dd, e⟩ := hs p hp; ⟨u, o, ru, dd, fixO_at e0.hok e, cut_in (by rw [hll]; exact List.mem_map.mpr ⟨p.1, (List.of_mem_zip hp).1, rfl⟩)⟩) hns kp
  obtain ⟨te, pe, re⟩ := hbody A outer s (cut l H) E' f hg (hr.deeper _)
  have hps : HasS (cutF l F) (cut l H) n (vs.map some) (ds.map fun d => some (.d d)) := ⟨pb.cut e0.hok (fun c hc => (hcell c hc).2), by rw [List.length_map, List.length_map, hds.len], fun i x e => by
    rw [List.getElem?_map] at e
    obtain ⟨d, e1, e2⟩ := Option.map_eq_some_iff.mp e
    cases e2
    obtain ⟨v, e3, hv⟩ := (hds.cutB fx e0.hok (fun c hc => (hcell c hc).2) hp).get e1
    exact ⟨v, by rw [List.getElem?_map, e3]; rfl, hv⟩⟩
  have ht : te (vs.map some) (cut l H) (fun v H' => ∃ d F' n', Grow (cutF l F) (cut l H) n F' H' n' ∧ Has F' H' v d ∧ Kd d n') := re _ _ n _ _ Kd Xd _ hps hm (fun v d F' H' n' g hv hk => ⟨d, F', n', g, hv, hk⟩) fun cls od xd F' H' n' g hx' hk => ⟨xd, F', n', g, hx', hk⟩
  have fin : ∀ {er : Value} {s' : Shared}, L2.CX P w outer (cut l H) s E' er s' → L2.CX P w outer H s E er s' := fun {er s'} z => by
    obtain ⟨a, B, H', cls, d, ea, fl, hokB, ub, na, os, ag, xd, F', n', g, hx', hk⟩ := z
    obtain ⟨ub2, hok2, hn, hB⟩ := ub_lay fx e0.hok hfr ub hokB
    have hal : a ∉ l := fun z => by
      obtain ⟨o, e⟩ := hB a z
      rw [fl.2.1] at e
      cases e
    refine ⟨a, B, lay l H H', cls, d, ea, fl, hok2, ub2, by rw [lay_out hal]; exact na, os, ag, ?_⟩
    exact hx cls d xd _ _ n' (g.lay fx hF hn) (hx'.later (later_lay (n := n') hn) fun a fs e => by rw [lay_out (fun z => by rw [hn a z] at e; cases e)]; exact e) hk
  refine PySem.W.kla_codeExpr (wpAny_mono ((pe ()).run [] _ _ (cut l H) _ J ht) (fun v s' hq' => ?_) fun e s' z => wpAny_mono (show wpAny _ _ _ _ _ _ from z) (fun _ s'' z => fin z) fun _ s'' z => fin z)
  obtain ⟨v', H', J', rv, d, F', n', g, hv, hk⟩ := hq'
  obtain ⟨un2, hok2, hn⟩ := un_lay fx e0.hok hfr J'.base J'.hok
  exact ⟨v', lay l H H', J'.os, J'.bare, un2, hok2, rv, hq v' d _ _ n' (g.lay fx hF hn) (hv.later (later_lay (n := n') hn)) hk⟩
/-- by data -/
def tellWB (w : List D → Wm D) (cells : List (Str × Addr)) (caps : List Str) (idx : Str → Nat) (ds : List D) : TD D := fun ρ Kd _ n => ∃ cap : Str → D, (∀ y ∈ caps, ρ[idx y]? = some (some (.d (cap y))) ∧ bareB (cap y) = true) ∧
  tellOkL (fun r => ∀ p ∈ r.cl, p.1 ∈ caps ∧ cells.lookup p.1 = some p.2) ds ∧ w (tellL cap ds) (fun d n' => plainD d = true ∧ Kd d n') XFalse n
section
variable {ι : Type} {X : ι → Cx} {W : WX}
theorem DE.tellB {x : Str} {p pos : Pos} {e : Expr} {es : List Expr} {t : TD (List D)} {k f fd} {ps : List Str} {w : List D → Wm D} {m : Nat} {cells : List (Str × Addr)} {caps : List Str} {idx : Str → Nat} (hcl : ∀ i, (X i).env.cells = cells) (F : ∀ i, FnG (X i).prog (X i).w (X i).K (X i).mg (X i).base k f fd ps (spD m w)) (hgd : ∀ i, (X i).A.guards = some []) (hr : ∀ i, Room k (X i).A)
    (hg : ∀ i, Gl (X i) x) (hm : ∀ i, (X i).mg x = some (.ref f)) (hk : ∀ i, PySem.W.keepIn (X i).K (.ref f) = true) (hb : ∀ i, Binds (X i).K fd ps []) (hfn : ∀ i, ∀ y ∈ caps, (X i).fn y = true) (hcap : ∀ i, ∀ y ∈ caps, (X i).env.scope.names.lookup y = some .cell ∧ (X i).N[idx y]? = some y)
    (h : DA X W (e :: es) t) (hdb : (x == ("__debug__" : Str)) = false := by decide)
    (he : ∀ i, starEach (e :: es) (X i).env = (false, eval e (X i).env) :: starEach es (X i).env := by intro _; rfl) (hpl : ∀ i, (backTo pos (starEach es (X i).env)).any (·.1) = false := by intro _; rfl) :
    DE X W (.Call (.Name x p) (e :: es) [] pos) (fun ρ => do let ds ← t ρ; Wm.need (ds.length = m); tellWB w cells caps idx ds ρ) := by
  obtain ⟨ta, p1, r1⟩ := h
  refine ⟨tTell (spD m w) cells caps idx ta, fun i => by rw [← hcl i]; exact pe_tell (F i) (hgd i) (hr i) (hg i) (hm i) (hk i) (hb i) (hfn i) (hcap i) (p1 i) hdb (he i) (hpl i), fun F H n σ ρ K Kx Q hs ht hq hx => ?_⟩
  refine r1 F H n σ ρ _ Kx _ hs ht (fun vs ds F1 H1 n1 g1 hv ht1 => ?_) hx
  obtain ⟨hlen, cap, hcap', hok, hw⟩ := ht1
  have hs1 := hs.mono g1
  refine ⟨fun y hy => let ⟨v, e, _⟩ := hs1.at_ _ _ (hcap' y hy).1; ⟨v, e⟩, fun f fx hn hcell => ?_⟩
  obtain ⟨l, hl⟩ : ∃ l, l = caps.filterMap (fun y => cells.lookup y) := ⟨_, rfl⟩
  rw [← hl] at fx hn ⊢
  have hn1 : ∀ c ∈ l, H1 c = none := fun c hc => (hn c hc).1
  have told : tellOkL (fun r => ∀ p ∈ r.cl, Told l F1 H1 f cap p) ds := tellOkL.imp (fun r hr p hp => by
    obtain ⟨h1, h2⟩ := hr p hp
    obtain ⟨c, v, u, o, e1, e2, ru, dd, e3⟩ := hcell _ h1
    rw [h2] at e1
    cases e1
    obtain ⟨v', e4, hv'⟩ := hs1.at_ _ _ (hcap' _ h1).1
    rw [e2] at e4
    cases e4
    exact ⟨by rw [hl]; exact List.mem_filterMap.mpr ⟨_, h1, h2⟩, v, u, o, ru, dd, e3, Has.layB hn1 hv' (hcap' _ h1).2⟩) hok
  refine ⟨by rw [hv.len]; exact hlen, layF l F1, n1, tellL cap ds, _, XFalse, g1.pb.lay fx hn1, hv.tell hn1 told, hw, fun v d F' H' n' g hv' hk' => ?_, fun _ _ _ _ _ _ _ _ z => z⟩
  obtain ⟨g2, hkeep⟩ := g.cut g1.pb hn1 fx fun c hc => (hn c hc).2
  have fx' : Fixed l H' := fun c hc => by rw [hkeep c hc]; exact fx c hc
  exact ⟨hkeep, hq v d _ _ n' (g1.trans g2) (hv'.cut fx' hk'.1) hk'.2⟩
end

def forBody : Stmt → List Stmt
  | .For _ _ b _ _ => b
  | _ => []
def lamOfIter : Stmt → Expr
  | .For _ (.Tuple (_ :: e :: _) _ _) _ _ _ => e
  | _ => .Tuple [] 0 ⟨0, 0, 0, 0⟩
end DL


set_option maxRecDepth 100000
set_option maxHeartbeats 2000000
/-! DL20: errors as values: made by place and by name, their fields, isinstance, caught without a name. Own work over HandS; the first part turns proofs of HandS.Exc to calls with keywords. -/
namespace DL.Kw
open PySem PySem.Spec PySem.HandSPX
section
variable {M : Model} {A : Around} {E : Value → Shared → Prop} {h : Heap} {gs : Array GenState} {dr : Drawn} {tk : Nat} {osx : OsState}
variable {na q : Str} {C N : Addr} {b0 mro mrB : List Value} {hd : Bool} {s1 : List Str} {s2 : List Value} {a1 : Bool} {a2 : Option Bool} {a3 : Option Addr} {p0 p1 p2 p3 p5 : Option Value} {Bn nid iid : String}

theorem check_new_ownK (EF : ExcBaseFacts Bn nid iid mrB) (same : ∀ X : String, mro.contains (.type X) = mrB.contains (.type X)) {xs : List Value} {kw : List (Str × Value)} {Q : Unit → Shared → Prop}
    (atC : h.get? C = some (excClassObj na q C N b0 mro hd s1 s2 a1 a2 a3 p0 p1 p2 p3 p5 nid)) (fin : Q () ⟨h, gs, dr, tk, osx⟩) : wpAny M A (checkBuiltinCall nid ⟨.ref C :: xs, kw⟩) Q E ⟨h, gs, dr, tk, osx⟩ := by
  have c0 : (Value.ref C :: mro).contains (.type Bn) = true := by rw [List.contains_cons, same, EF.hasB, Bool.or_true]
  have c1 := EF.noStar
  simp only [checkBuiltinCall, EF.newKind, EF.newSplit, EF.newRow]
  repeat (first | refine wpAny_loadPart_at atC ?_ | (refine wpAny_isSubtype_exc atC ?_; rw [c0]) | refine wpAny_staticBase_exc atC ?_ | refine wpAny_madeBy_exc atC ?_ | simp only [bne_self_eq_false, Bool.false_eq_true, if_false] | wp_step)
  exact fin
theorem check_type_callK {M : Model} {xs : List Value} {kw : List (Str × Value)} {Q : Unit → Shared → Prop} (atC : h.get? C = some (excClassObj na q C N b0 mro hd s1 s2 a1 a2 a3 p0 p1 p2 p3 p5 nid))
    (fin : Q () ⟨h, gs, dr, tk, osx⟩) : wpAny M A (checkBuiltinCall "type.__call__" ⟨.ref C :: xs, kw⟩) Q E ⟨h, gs, dr, tk, osx⟩ := by
  have w3 := tc_sub
  have same : (⟨h, gs, dr, tk, osx⟩ : Shared).TypeIs (.ref C) "type" := ⟨_, atC, rfl⟩
  simp only [checkBuiltinCall, tc_kind, tc_split]
  repeat (any_goals (first | assumption | with_reducible refine wpAny_loadPart_at atC ?_ | with_reducible refine wpAny_onRaise ?_ | with_reducible refine wpAny_map ?_ | wp_step))

end
section
variable {prog : Program} {w : World} {A : Around} {E : Value → Shared → Prop} {R : Result → Shared → Prop} {h : Heap} {gs : Array GenState} {dr : Drawn} {tk : Nat} {osx : OsState}
variable {na q : Str} {C N : Addr} {b0 mro mrB : List Value} {hd : Bool} {s1 : List Str} {s2 : List Value} {a1 : Bool} {a2 : Option Bool} {a3 : Option Addr} {p0 p1 p2 p3 p5 : Option Value} {Bn nid iid : String}

theorem new_ownK (EF : ExcBaseFacts Bn nid iid mrB) (same : ∀ X : String, mro.contains (.type X) = mrB.contains (.type X)) {xs : List Value} {kw : List (Str × Value)}
    (atC : h.get? C = some (excClassObj na q C N b0 mro hd s1 s2 a1 a2 a3 p0 p1 p2 p3 p5 nid))
    (fin : R (.ok (.ret (.ref (h.objs.size + 1)))) ⟨(h.push { cls := .type "tuple", data := .seq xs.toArray }).push
      { cls := .ref C, data := .fields #[.ref h.objs.size, .none, .none, .none, .bool false, .none] }, gs, dr, tk, osx⟩) (xsl : xs.length ≤ sizeLine) :
    codeAny (model prog w) A (.builtin nid ⟨.ref C :: xs, kw⟩) R ⟨h, gs, dr, tk, osx⟩ := by
  have cE := EF.ends
  have cB : (Value.ref C :: mro).contains (.type Bn) = true := by rw [List.contains_cons, same, EF.hasB, Bool.or_true]
  have cA : (Value.ref C :: mro).contains (.type "AttributeError") = false := by rw [List.contains_cons, same, EF.noAttr]; rfl
  have cN : (Value.ref C :: mro).contains (.type "NameError") = false := by rw [List.contains_cons, same, EF.noName]; rfl
  refine codeAny_builtinAt EF.entry ?_
  unfold Builtin.«BaseException.__new__»
  refine wpAt_bind ?_
  show wpAt _ _ _ (stack >>= _) _ _ _
  refine wpAt_bind (wpAt_stack fun p below => wpAt_of_wpAny ?_)
  wp_walk
  refine wpAt_of_wpAny ?_
  rw [EF.owner]
  repeat (first | with_reducible refine wpAny_madeHere_exc EF.canon atC ?_ | with_reducible refine wpAny_loadPart_at atC ?_ | (with_reducible refine wpAny_isSubtype_exc atC ?_; first | rw [cB] | rw [cA] | rw [cN]) | wp_step)
  show R _ _
  rw [Heap.size_push]
  exact fin

theorem type_call_ownK (EF : ExcBaseFacts Bn nid iid mrB) (same : ∀ X : String, mro.contains (.type X) = mrB.contains (.type X)) {xs : List Value} {kw : List (Str × Value)} {ini : Addr} {Q : Fin → Shared → Prop}
    (atC : h.get? C = some (excClassObj na q C N b0 mro hd s1 s2 a1 a2 a3 p0 p1 p2 p3 p5 nid))
    (iI : W.Looks (model prog w) h (typeLookup (.ref C) "__init__") (some (.ref ini))) (bI : ∀ self, W.Looks (model prog w) h (bindSpecial (.ref ini) self) (.ref ini, [self])) (xsl : xs.length ≤ sizeLine)
    (fin : codeAny (model prog w) A (.call (.ref ini) ⟨.ref (h.objs.size + 1) :: xs, kw⟩)
      (fun r s' => match r with | .ok (.ret v) => v = .none ∧ Q (.done (.ret (.ref (h.objs.size + 1)))) s' | .ok _ => False | .error e => E e s')
      ⟨(h.push (W.kdv_tup xs)).push (excO C h.objs.size), gs, dr, tk, osx⟩) :
    wpAny (model prog w) A (Builtin.«type.__call__» ⟨.ref C :: xs, kw⟩) Q E ⟨h, gs, dr, tk, osx⟩ := by
  repeat (first | with_reducible refine wpAny_loadPart_at atC ?_ | with_reducible refine wpAny_madeBy_exc atC ?_ | wp_step)
  refine codeAny_call_builtin_code (Code.quiet_builtin _ EF.quiet) (check_new_ownK EF same atC ?_)
  refine new_ownK EF same atC ?_ xsl
  show wpAny _ _ _ _ _ _
  have kp : ∀ b o, h.get? b = some o → ((h.push (W.kdv_tup xs)).push (excO C h.objs.size)).get? b = some o := fun b o e => Heap.get?_push_of_some _ (Heap.get?_push_of_some _ e)
  have atC1 := kp _ _ atC
  have atE : ((h.push (W.kdv_tup xs)).push (excO C h.objs.size)).get? (h.objs.size + 1) = some (excO C h.objs.size) := by heap_get
  have cC : (Value.ref C :: mro).contains (.ref C) = true := by simp
  have j1 := iI.keeps kp
  have j2 := (bI (.ref (h.objs.size + 1))).keeps kp
  unfold isInstance
  repeat (first | with_reducible refine wpAny_loadPart_at atE ?_ | (with_reducible refine wpAny_isSubtype_exc atC1 ?_; rw [cC]) | wp_step)
  show wpAny _ _ (typeLookup (.ref C) _) _ _ _
  refine j1.at ?_
  refine wpAny_holding (wpAny_bind (j2.at ?_))
  refine wpAny_bind (wpAny_call (codeAny_mono fin fun r s' zz => ?_))
  rcases r with e | (v | _ | _ | _) <;> first | exact zz | exact zz.elim | skip
  obtain ⟨rfl, zz⟩ := zz
  first
    | exact wpAny_pure (wpAny_pure zz)
    | (wp_walk; exact zz)

theorem call_ownK (EF : ExcBaseFacts Bn nid iid mrB) (same : ∀ X : String, mro.contains (.type X) = mrB.contains (.type X)) {xs : List Value} {kw : List (Str × Value)} {ini : Addr}
    (atC : h.get? C = some (excClassObj na q C N b0 mro hd s1 s2 a1 a2 a3 p0 p1 p2 p3 p5 nid))
    (iI : W.Looks (model prog w) h (typeLookup (.ref C) "__init__") (some (.ref ini))) (bI : ∀ self, W.Looks (model prog w) h (bindSpecial (.ref ini) self) (.ref ini, [self])) (xsl : xs.length ≤ sizeLine)
    (fin : codeAny (model prog w) (A.under (.builtin "type.__call__" ⟨.ref C :: xs, kw⟩)) (.call (.ref ini) ⟨.ref (h.objs.size + 1) :: xs, kw⟩) (W.InitBack (h.objs.size + 1) R)
      ⟨(h.push (W.kdv_tup xs)).push (excO C h.objs.size), gs, dr, tk, osx⟩) :
    codeAny (model prog w) A (.call (.ref C) ⟨xs, kw⟩) R ⟨h, gs, dr, tk, osx⟩ := by
  have w1 := tc_lookup
  have w2 := tc_bind (.ref C)
  have tyC : (⟨h, gs, dr, tk, osx⟩ : Shared).TypeIs (.ref C) "type" := ⟨_, atC, rfl⟩
  refine codeAny_of_tree ?_
  show wpAny _ _ (callAny (.ref C) _) _ _ _
  repeat (any_goals (first | assumption | with_reducible refine wpAny_loadPart_at atC ?_ | wp_step))
  refine ⟨rfl, ?_⟩
  refine codeAny_call_builtin_at (Code.quiet_builtin _ (by decide +kernel)) entry_typeCall (check_type_callK atC (type_call_ownK EF same atC iI bI xsl ?_))
  refine codeAny_mono fin fun r s' zz => ?_
  rcases r with e | (v | _ | _ | _) <;> exact zz

end
end DL.Kw


set_option maxRecDepth 100000
set_option maxHeartbeats 2000000
/-! DL21: errors as values: made by place and by name, their fields, isinstance, caught without a name. Own work over HandS. -/
namespace DL
open PySem PySem.Spec PyProof.Rows L2
/-! ### C(e, ..), C(f = e, ..) as values -/
section
variable {X : Cx} {pins : List (Addr × Obj)} {σ : L2.St} {H : Hp} {s : Shared} {Q : VK} {C fI : Addr} {k : Nat} {fd : FuncData} {ps : List Str} {sp : Sp}
theorem run_newO {us bs : List Value} {kws : List (Str × Value)} {vs : List V} (T : OexC X.K C) (iC : PySem.W.findIn X.K (.ref C) "__init__" = some (some (.ref fI))) (tI : PySem.W.typeIn X.K (.ref fI) = some (.type "function"))
    (F1 : FnOk X.prog X.w X.K X.mg X.base (L2.CX X.prog X.w) k fI fd ps sp) (hr : Room (k + 1) X.A) (I : Inv X pins σ H s) (r : Vals vs bs) (hus : us.length ≤ 1000) (hb : ∀ (s' : Shared) (a : Value), X.K.In s'.heap → BindsTo s' fd ⟨a :: us, kws⟩ (ps.zip (a :: bs)))
    (q : ∀ a, H a = none → sp (.ref a :: vs) (upd H a (exo a C none)) (fun v H2 => v = .non ∧ Q (.ref a) H2) (fun _ _ _ => False)) : wpAny (model X.prog X.w) X.A (call (.ref C) us kws) (EP X pins σ Q) X.xe s := by
  obtain ⟨nm, qn, N, bss, bm, sn, sub, ab, col, dd, k0, k1, k2, k3, k5, hC, hbm⟩ := T.cls
  obtain ⟨hp, g, dr, tk, os⟩ := s
  have hsz : hp.objs.size ≤ hp.objs.size + 1 := Nat.le_succ _
  have hq := q (hp.objs.size + 1) (I.hok.fresh hsz)
  have kk : ∀ b o, hp.get? b = some o → ((hp.push (PySem.W.kdv_tup us)).push (PySem.HandSPX.excO C hp.objs.size)).get? b = some o := fun b o e => Heap.get?_push_of_some _ (Heap.get?_push_of_some _ e)
  have hget : ((hp.push (PySem.W.kdv_tup us)).push (PySem.HandSPX.excO C hp.objs.size)).get? (hp.objs.size + 1) = some (PySem.HandSPX.excO C hp.objs.size) := by heap_get
  have I2 : Inv X pins σ (upd H (hp.objs.size + 1) (exo (hp.objs.size + 1) C none)) ⟨(hp.push (PySem.W.kdv_tup us)).push (PySem.HandSPX.excO C hp.objs.size), g, dr, tk, os⟩ :=
    I.laid (t' := tk) (a := hp.objs.size + 1) (o := exo (hp.objs.size + 1) C none) (h' := (hp.push (PySem.W.kdv_tup us)).push (PySem.HandSPX.excO C hp.objs.size)) kk hsz (exo_ok hget)
  have r2 : Vals (V.ref (hp.objs.size + 1) :: vs) (Value.ref (hp.objs.size + 1) :: bs) := .cons rfl r
  have husz : us.length ≤ sizeLine := by rw [sizeLine_eq]; omega
  refine wpAny_call (Kw.call_ownK F.excBase_ValueError (fun Y => PySem.HandSPX.refsVE_contains Y bm hbm) (I.kIn _ _ hC) (PySem.W.looks_findIn I.kIn iC) (fun self => PySem.W.bind_fn I.kIn self tI) husz
    (codeAny_mono (F1.run _ X.stack _ _ ⟨Value.ref (hp.objs.size + 1) :: us, kws⟩ (Value.ref (hp.objs.size + 1) :: bs) _ _ (fun _ _ _ => False) (hr.make C us kws) (I2.env0.make C us kws) (hb _ _ I2.kIn) r2 hq) fun r s' hq' => ?_))
  cases r with
  | error er => exact passL pins σ _ _ er s' I2 hq'
  | ok fl =>
    cases fl with
    | ret u =>
      obtain ⟨v, H', I3, rv, ev, q3⟩ := I2.after hq'
      subst ev
      exact ⟨rv, ⟨V.ref (hp.objs.size + 1), H', I3, rfl, q3⟩⟩
    | next => exact False.elim hq'
    | brk => exact False.elim hq'
    | cont => exact False.elim hq'
end
/-- the new exception's fields stand -/
theorem exc_laid {F1 : Addr → Prop} {H1 : Hp} {n1 : Nat} {C a dx : Addr} {fs : List Str} {vs : List V} {ds : List D} (pb : PenB F1 H1 n1) (hv : HasL F1 H1 vs ds) (hl : vs.length = fs.length) (ha : H1 a = none) (n : upd H1 a (exo a C none) dx = none) (ne : dx ≠ a) :
    ∃ F2, Grow F1 H1 n1 F2 (upd (upd (upd H1 a (exo a C none)) a (exo a C (some dx))) dx (exd dx ((fs.zip vs).reverse))) n1 ∧ Has F2 (upd (upd (upd H1 a (exo a C none)) a (exo a C (some dx))) dx (exd dx ((fs.zip vs).reverse))) (.ref a) (.exc C fs.reverse ds.reverse) := by
  have hd1 : H1 dx = none := by rw [upd_ne ne] at n; exact n
  have hd2 : upd H1 a (exo a C (some dx)) dx = none := by rw [upd_ne ne]; exact hd1
  have g2 : Grow F1 H1 n1 (plusF F1 a) (upd H1 a (exo a C (some dx))) n1 := .laid pb ha .ext
  have g3 : Grow (plusF F1 a) (upd H1 a (exo a C (some dx))) n1 (plusF (plusF F1 a) dx) (upd (upd H1 a (exo a C (some dx))) dx (exd dx ((fs.zip vs).reverse))) n1 := .laid g2.pb hd2 .ext
  rw [upd_upd]
  have e1 : ((fs.zip vs).reverse).map (·.1) = fs.reverse := by rw [List.map_reverse, List.map_fst_zip (by omega)]
  have e2 : ((fs.zip vs).reverse).map (·.2) = vs.reverse := by rw [List.map_reverse, List.map_snd_zip (by omega)]
  exact ⟨_, g2.trans g3, .exc (.inl plusF_same) (by rw [upd_ne (Ne.symm ne), upd_same]) plusF_same upd_same e1 (by rw [e2]; exact (hv.mono (g2.trans g3)).rev)⟩
theorem vals_rev {vs : List V} {us : List Value} (r : Vals vs us) : Vals vs.reverse us.reverse := by
  induction r with
  | nil => exact .nil
  | cons h r ih =>
    rw [List.reverse_cons, List.reverse_cons]
    exact ih.append (.cons h .nil)
/-- C(e, ..) as a value -/
def tNewO (C : Addr) (sp : Sp) (r : Bool) (ta : TA) : TE := fun σ H Q => ta σ H fun vs H1 => vs.length ≤ 1000 ∧ ∀ a, H1 a = none → sp (.ref a :: (if r then vs.reverse else vs)) (upd H1 a (exo a C none)) (fun v H2 => v = .non ∧ Q (.ref a) H2) (fun _ _ _ => False)
/-- how the keywords of C(g = .., f = ..), the last field first, are bound -/
def KwB (K : PySem.W.Frag) (fd : FuncData) (ps fs : List Str) : Prop := ∀ (s : Shared) (a : Value) (ws : List Value), K.In s.heap → ws.length = fs.length → BindsTo s fd ⟨[a], fs.reverse.zip ws⟩ (ps.zip (a :: ws.reverse))
section
variable {X : Cx} {C fI : Addr} {k : Nat} {fd : FuncData} {ps fs : List Str} {sp : Sp} {x : Str} {p pos : Pos} {e : Expr} {es : List Expr} {kws : List Keyword} {ta tk : TA}
theorem pe_newO (T : OexC X.K C) (iC : PySem.W.findIn X.K (.ref C) "__init__" = some (some (.ref fI))) (tI : PySem.W.typeIn X.K (.ref fI) = some (.type "function")) (F1 : FnOk X.prog X.w X.K X.mg X.base (L2.CX X.prog X.w) k fI fd ps sp) (hr : Room (k + 1) X.A) (hb : Binds X.K fd ps []) (hg : Gl X x) (hm : X.mg x = some (.ref C)) (ha : PA X (e :: es) ta)
    (hdb : (x == ("__debug__" : Str)) = false := by decide) (he : starEach (e :: es) X.env = (false, eval e X.env) :: starEach es X.env := by rfl) (hpl : (backTo pos (starEach es X.env)).any (·.1) = false := by rfl) :
    PE X (.Call (.Name x p) (e :: es) [] pos) (tNewO C sp false ta) := by
  refine ⟨fun pins s σ H Q I h => ?_⟩
  refine wpAny_Call_Name_kw (ld_glob I hg hm ?_ hdb)
  refine PySem.W.callWith_K (h₀ := X.base) I.ok.mod.kin T.kC (thn (ha.run pos pins s σ H _ I h) fun us s1 ⟨vs, H1, I1, r1, hz, q1⟩ => ⟨I1.kIn, ?_⟩) he hpl
  have q1 : ∀ a, H1 a = none → sp (.ref a :: vs) (upd H1 a (exo a C none)) (fun v H2 => v = .non ∧ Q (.ref a) H2) (fun _ _ _ => False) := q1
  refine run_newO (us := us) T iC tI F1 hr I1 r1 (by rw [← r1.length]; exact hz) (fun s' a X' => ?_) q1
  have hl : (a :: us).length = ps.length := by
    have e1 := F1.len _ _ _ _ (q1 (s1.heap.objs.size + 1) (I1.hok.fresh (Nat.le_succ _)))
    rw [← e1, List.length_cons, List.length_cons, r1.length]
  have b := hb s' (a :: us) X' (by rw [List.append_nil]; exact hl)
  rw [List.append_nil] at b
  exact b
theorem pe_newO0 (T : OexC X.K C) (iC : PySem.W.findIn X.K (.ref C) "__init__" = some (some (.ref fI))) (tI : PySem.W.typeIn X.K (.ref fI) = some (.type "function")) (F1 : FnOk X.prog X.w X.K X.mg X.base (L2.CX X.prog X.w) k fI fd ps sp) (hr : Room (k + 1) X.A) (hb : Binds X.K fd ps []) (hg : Gl X x) (hm : X.mg x = some (.ref C))
    (hdb : (x == ("__debug__" : Str)) = false := by decide) : PE X (.Call (.Name x p) [] [] pos) (tNewO C sp false tNil) := by
  refine ⟨fun pins s σ H Q I h => ?_⟩
  refine wpAny_Call_Name_kw (ld_glob I hg hm ?_ hdb)
  have q1 : ∀ a, H a = none → sp [.ref a] (upd H a (exo a C none)) (fun v H2 => v = .non ∧ Q (.ref a) H2) (fun _ _ _ => False) := h.2
  refine PySem.W.callWith_K0 I.kIn T.kC (run_newO (us := []) (bs := []) (vs := []) T iC tI F1 hr I .nil (by simp) (fun s' a X' => ?_) q1)
  have hl : [a].length = ps.length := by
    have e1 := F1.len _ _ _ _ (q1 (s.heap.objs.size + 1) (I.hok.fresh (Nat.le_succ _)))
    rw [← e1]
    rfl
  have b := hb s' [a] X' (by rw [List.append_nil]; exact hl)
  rw [List.append_nil] at b
  exact b
theorem pe_newK (T : OexC X.K C) (iC : PySem.W.findIn X.K (.ref C) "__init__" = some (some (.ref fI))) (tI : PySem.W.typeIn X.K (.ref fI) = some (.type "function")) (F1 : FnOk X.prog X.w X.K X.mg X.base (L2.CX X.prog X.w) k fI fd ps sp) (hr : Room (k + 1) X.A) (hb : KwB X.K fd ps fs) (hps : ps.length = fs.length + 1) (hg : Gl X x) (hm : X.mg x = some (.ref C)) (hkw : PK X kws tk)
    (hall : (backToKw pos (keywordEach kws X.env)).all (·.1.isSome) = true := by rfl) (hks : (backToKw pos (keywordEach kws X.env)).filterMap (·.1) = fs.reverse := by rfl) (hdb : (x == ("__debug__" : Str)) = false := by decide)
    (hpl : ((backTo pos (starEach [] X.env)).any (·.1) || (backToKw pos (keywordEach kws X.env)).any (·.1.isNone)) = false := by rfl) :
    PE X (.Call (.Name x p) [] kws pos) (tNewO C sp true tk) := by
  refine ⟨fun pins s σ H Q I h => ?_⟩
  refine wpAny_Call_Name_kw (ld_glob I hg hm ?_ hdb)
  refine PySem.W.callWith_KW0 (h₀ := X.base) I.ok.mod.kin T.kC hall ?_ hpl
  refine thn (hkw.run pos pins s σ H _ I h) fun ws s2 ⟨zs, H2, I2, rz, hz, q2⟩ => ⟨I2.kIn, ?_⟩
  rw [hks]
  have q2 : ∀ a, H2 a = none → sp (.ref a :: zs.reverse) (upd H2 a (exo a C none)) (fun v H3 => v = .non ∧ Q (.ref a) H3) (fun _ _ _ => False) := q2
  have hl : ws.length = fs.length := by
    have e1 := F1.len _ _ _ _ (q2 (s2.heap.objs.size + 1) (I2.hok.fresh (Nat.le_succ _)))
    rw [List.length_cons, List.length_reverse, hps] at e1
    rw [← rz.length]
    omega
  exact run_newO (us := []) T iC tI F1 hr I2 (vals_rev rz) (by simp) (fun s' a X' => hb s' a ws X' hl) q2
end
/-! ### the same by data -/
structure DK {ι : Type} (X : ι → Cx) (W : WX) (kws : List Keyword) (t : TD (List D)) : Prop where
  ex : ∃ tk, (∀ i, PK (X i) kws tk) ∧ RunA W tk t
/-- a def's promise: no field -/
def spInit0 (C : Addr) : Sp := fun vs H Q _ => ∃ a, vs = [.ref a] ∧ H a = some (exo a C none) ∧ Q .non H
section
variable {ι : Type} {X : ι → Cx} {W : WX}
theorem DK.nil : DK X W [] (fun _ => pure []) := ⟨_, fun _ => pk_nil, fun F H n σ ρ K Kx Q hs ht hq _ => hq [] [] F H n (.refl hs.pb) .nil ht⟩
theorem DK.cons {nm : Option Str} {e : Expr} {kpos : Pos} {kws : List Keyword} {t : TD D} {u : TD (List D)} (h1 : DE X W e t) (h2 : DK X W kws u) :
    DK X W (⟨nm, e, kpos⟩ :: kws) (fun ρ => do let d ← t ρ; let ds ← u ρ; pure (d :: ds)) := by
  obtain ⟨te, p1, r1⟩ := h1
  obtain ⟨ta, p2, r2⟩ := h2
  refine ⟨_, fun i => pk_cons (p1 i) (p2 i), fun F H n σ ρ K Kx Q hs ht hq hx => ?_⟩
  refine r1 F H n σ ρ _ Kx _ hs ht (fun v d F1 H1 n1 g1 hv ht1 => ?_) hx
  refine r2 F1 H1 n1 σ ρ _ Kx _ (hs.mono g1) ht1 (fun vs ds F2 H2 n2 g2 hvs ht2 => ?_) fun cls od xd F' H' n' g => hx cls od xd F' H' n' (g1.trans g)
  exact hq (v :: vs) (d :: ds) F2 H2 n2 (g1.trans g2) (.cons (hv.mono g2) hvs) ht2
theorem DE.newO {x : Str} {C fI : Addr} {k : Nat} {fd : FuncData} {ps fs : List Str} {e : Expr} {es : List Expr} {t : TD (List D)} {p pos : Pos} (T : ∀ i, OexC (X i).K C) (hz : fs.length ≤ 800)
    (iC : ∀ i, PySem.W.findIn (X i).K (.ref C) "__init__" = some (some (.ref fI))) (tI : ∀ i, PySem.W.typeIn (X i).K (.ref fI) = some (.type "function"))
    (F1 : ∀ i, FnOk (X i).prog (X i).w (X i).K (X i).mg (X i).base (L2.CX (X i).prog (X i).w) k fI fd ps (spInit C fs)) (hr : ∀ i, Room (k + 1) (X i).A) (hb : ∀ i, Binds (X i).K fd ps []) (hg : ∀ i, Gl (X i) x) (hm : ∀ i, (X i).mg x = some (.ref C)) (ha : DA X W (e :: es) t)
    (hdb : (x == ("__debug__" : Str)) = false := by decide) (he : ∀ i, starEach (e :: es) (X i).env = (false, eval e (X i).env) :: starEach es (X i).env := by intro _; rfl) (hpl : ∀ i, (backTo pos (starEach es (X i).env)).any (·.1) = false := by intro _; rfl) :
    DE X W (.Call (.Name x p) (e :: es) [] pos) (fun ρ => do let ds ← t ρ; Wm.need (ds.length = fs.length); pure (.exc C fs.reverse ds.reverse)) := by
  obtain ⟨ta, pa, ra⟩ := ha
  refine ⟨_, fun i => pe_newO (T i) (iC i) (tI i) (F1 i) (hr i) (hb i) (hg i) (hm i) (pa i) hdb (he i) (hpl i), fun F H n σ ρ K Kx Q hs ht hq hx => ?_⟩
  refine ra F H n σ ρ _ Kx _ hs ht (fun vs ds F1 H1 n1 g1 hv hk => ?_) hx
  obtain ⟨hl, hk⟩ := hk
  have hlv : vs.length = fs.length := by rw [hv.len]; exact hl
  refine ⟨by omega, fun a ha => ⟨a, vs, rfl, hlv, upd_same, fun dx n ne => ⟨rfl, ?_⟩⟩⟩
  obtain ⟨F2, g2, h2⟩ := exc_laid g1.pb hv hlv ha n ne
  exact hq _ _ F2 _ n1 (g1.trans g2) h2 hk
theorem DE.newK {x : Str} {C fI : Addr} {k : Nat} {fd : FuncData} {ps fs : List Str} {kws : List Keyword} {t : TD (List D)} {p pos : Pos} (T : ∀ i, OexC (X i).K C) (hz : fs.length ≤ 800)
    (iC : ∀ i, PySem.W.findIn (X i).K (.ref C) "__init__" = some (some (.ref fI))) (tI : ∀ i, PySem.W.typeIn (X i).K (.ref fI) = some (.type "function"))
    (F1 : ∀ i, FnOk (X i).prog (X i).w (X i).K (X i).mg (X i).base (L2.CX (X i).prog (X i).w) k fI fd ps (spInit C fs)) (hr : ∀ i, Room (k + 1) (X i).A) (hb : ∀ i, KwB (X i).K fd ps fs) (hps : ps.length = fs.length + 1) (hg : ∀ i, Gl (X i) x) (hm : ∀ i, (X i).mg x = some (.ref C)) (ha : DK X W kws t)
    (hall : ∀ i, (backToKw pos (keywordEach kws (X i).env)).all (·.1.isSome) = true := by intro _; rfl) (hks : ∀ i, (backToKw pos (keywordEach kws (X i).env)).filterMap (·.1) = fs.reverse := by intro _; rfl) (hdb : (x == ("__debug__" : Str)) = false := by decide)
    (hpl : ∀ i, ((backTo pos (starEach [] (X i).env)).any (·.1) || (backToKw pos (keywordEach kws (X i).env)).any (·.1.isNone)) = false := by intro _; rfl) :
    DE X W (.Call (.Name x p) [] kws pos) (fun ρ => do let ds ← t ρ; Wm.need (ds.length = fs.length); pure (.exc C fs.reverse ds)) := by
  obtain ⟨ta, pa, ra⟩ := ha
  refine ⟨_, fun i => pe_newK (T i) (iC i) (tI i) (F1 i) (hr i) (hb i) hps (hg i) (hm i) (pa i) (hall i) (hks i) hdb (hpl i), fun F H n σ ρ K Kx Q hs ht hq hx => ?_⟩
  refine ra F H n σ ρ _ Kx _ hs ht (fun vs ds F1 H1 n1 g1 hv hk => ?_) hx
  obtain ⟨hl, hk⟩ := hk
  have hlv : vs.reverse.length = fs.length := by rw [List.length_reverse, hv.len]; exact hl
  refine ⟨by rw [List.length_reverse] at hlv; omega, fun a ha => ⟨a, vs.reverse, rfl, hlv, upd_same, fun dx n ne => ⟨rfl, ?_⟩⟩⟩
  obtain ⟨F2, g2, h2⟩ := exc_laid g1.pb hv.rev hlv ha n ne
  rw [List.reverse_reverse] at h2
  exact hq _ _ F2 _ n1 (g1.trans g2) h2 hk
theorem DE.new0 {x : Str} {C fI : Addr} {k : Nat} {fd : FuncData} {ps : List Str} {p pos : Pos} (T : ∀ i, OexC (X i).K C)
    (iC : ∀ i, PySem.W.findIn (X i).K (.ref C) "__init__" = some (some (.ref fI))) (tI : ∀ i, PySem.W.typeIn (X i).K (.ref fI) = some (.type "function"))
    (F1 : ∀ i, FnOk (X i).prog (X i).w (X i).K (X i).mg (X i).base (L2.CX (X i).prog (X i).w) k fI fd ps (spInit0 C)) (hr : ∀ i, Room (k + 1) (X i).A) (hb : ∀ i, Binds (X i).K fd ps []) (hg : ∀ i, Gl (X i) x) (hm : ∀ i, (X i).mg x = some (.ref C))
    (hdb : (x == ("__debug__" : Str)) = false := by decide) : DE X W (.Call (.Name x p) [] [] pos) (fun _ => pure (.exc C [] [])) := by
  refine ⟨_, fun i => pe_newO0 (T i) (iC i) (tI i) (F1 i) (hr i) (hb i) (hg i) (hm i) hdb, fun F H n σ ρ K Kx Q hs ht hq hx => ?_⟩
  exact ⟨by simp, fun a ha => ⟨a, rfl, upd_same, rfl, hq (.ref a) (.exc C [] []) (plusF F a) _ n (.laid hs.pb ha .ext) (.exc0 plusF_same upd_same) ht⟩⟩
end
/-! ### e.f of an error -/
def tAtt (K : PySem.W.Frag) (f : Str) (te : TE) : TE := fun σ H Q => te σ H fun x H1 => ∃ (a C dx : Addr) (fs : List (Str × V)) (v : V), x = .ref a ∧ XfC K C ∧ PySem.W.findIn K (.ref C) f = some none ∧ H1 a = some (exo a C (some dx)) ∧ H1 dx = some (exd dx fs) ∧ fs.lookup f = some v ∧ Q v H1
theorem pe_att {X : Cx} {e : Expr} {te : TE} {pos : Pos} {f : Str} (he : PE X e te) (hb : attributeBase e f X.env (eval e X.env) = eval e X.env := by rfl) : PE X (.Attribute e f pos) (tAtt X.K f te) := by
  refine ⟨fun pins s σ H Q I h => attr_of hb (thn (he.run pins s σ H _ I h) fun u s1 ⟨x, H1, I1, rx, a, C, dx, fs, v, ex, T, hno, ea, ed, l, q⟩ => ?_)⟩
  subst ex
  obtain rfl : u = Value.ref a := rx
  obtain ⟨t1, ho⟩ := exo_at I1.hok ea
  obtain ⟨mA, hns, hr⟩ := exd_at I1.hok ed
  obtain ⟨od, ho2, hl⟩ := lookIn_ns hns
  obtain ⟨u, hu, ru⟩ := RelO.some_of (v := v) (o := mA f) (by rw [← l]; exact hr f)
  have J : PySem.W.InstAt s1.heap a _ C (some od) := ⟨ho, rfl, rfl, ho2⟩
  exact PySem.HandSPX.exc_get I1.kIn J T.ga T.gg T.exC (PySem.W.findObj_own T.hdC hno rfl (by rw [hl, hu])) (handed_of ru) ⟨v, H1, I1.tok _, ru, q⟩
def attW (K : PySem.W.Frag) (f : Str) : D → Wm D
  | .exc C ns ds => fun Kd _ n => ∃ d, XfC K C ∧ PySem.W.findIn K (.ref C) f = some none ∧ fieldD ns ds f = some d ∧ Kd d n
  | _ => Wm.fail
theorem DE.att {ι : Type} {X : ι → Cx} {W : WX} {K : PySem.W.Frag} {e : Expr} {t : TD D} {pos : Pos} {f : Str} (hK : ∀ i, (X i).K = K) (h : DE X W e t) (hb : ∀ i, attributeBase e f (X i).env (eval e (X i).env) = eval e (X i).env := by intro _; rfl) : DE X W (.Attribute e f pos) (fun ρ => do attW K f (← t ρ)) := by
  obtain ⟨te, pe, re⟩ := h
  refine ⟨tAtt K f te, fun i => by rw [← hK i]; exact pe_att (pe i) (hb i), fun F H n σ ρ Kd Kx Q hs ht hq hx => ?_⟩
  refine re F H n σ ρ _ Kx _ hs ht (fun v d F1 H1 n1 g1 hv hk => ?_) hx
  cases d with
  | exc C ns ds =>
    obtain ⟨d, T, no, e, hk⟩ := hk
    cases hv with
    | exc fa ha fd hd z l =>
      rw [← z] at e
      obtain ⟨v, e2, hv2⟩ := field_has l e
      exact ⟨_, C, _, _, v, rfl, T, no, ha, hd, e2, hq v d F1 H1 n1 g1 hv2 hk⟩
    | exc0 fa ha => cases e
  | _ => exact hk.elim
/-! ### isinstance of an error -/
def rIsX (K : PySem.W.Frag) : List V → Hp → VK → Prop := fun xs H Q => ∃ (a C : Addr) (d : Option Addr) (c : V) (cv : Value) (b : Bool), xs = [.ref a, c] ∧ H a = some (exo a C d) ∧ (∀ dx, d = some dx → ∃ fs, H dx = some (exd dx fs)) ∧ ExcC K C ∧ (∀ u, RelV c u → u = cv) ∧ PySem.W.kitOne K (.ref C) cv = some b ∧ Q (.bl b) H
theorem call_isX {X : Cx} : CallR X (.builtin "isinstance") (rIsX X.K) := by
  intro pins s σ H xs us Q I r h
  obtain ⟨a, D, d, c, cv, b, rfl, ea, hd, C, hcv, e, q⟩ := h
  cases r with
  | cons rx rr =>
    cases rr with
    | cons rt rr =>
      cases rr
      cases rx
      have ec := hcv _ rt
      subst ec
      obtain ⟨t1, hget⟩ := exo_at I.hok ea
      obtain ⟨od, J⟩ : ∃ od, PySem.W.InstAt s.heap a ({ cls := .ref D, dict := d, data := .fields #[.ref t1, .none, .none, .none, .bool false, .none] } : Obj) D od := by
        cases d with
        | none => exact ⟨none, hget, rfl, rfl, trivial⟩
        | some dx =>
          obtain ⟨fs, e2⟩ := hd dx rfl
          obtain ⟨mA, hns, _⟩ := exd_at I.hok e2
          obtain ⟨od, ho2, _⟩ := lookIn_ns hns
          exact ⟨some od, hget, rfl, rfl, ho2⟩
      have hcl : (PySem.W.clsIn X.K D).isSome = true := by
        obtain ⟨cd, hc, _⟩ := PySem.W.any_some C.hd
        rw [hc]
        rfl
      exact PySem.W.kia_one (PySem.W.kitx_exc hcl C.hg C.hk C.hs C.ha C.hn C.ht C.hm) I.kIn J e (fun z => nomatch z) fun tk => ⟨.bl b, H, I.kept (t' := tk) fun _ _ z => z, rfl, q⟩
def fIsX (K : PySem.W.Frag) (u : Value) : D → Wm D
  | .exc C _ _ => fun Kd _ n => ExcC K C ∧ ∃ b, PySem.W.kitOne K (.ref C) u = some b ∧ Kd (.bl b) n
  | _ => Wm.fail
theorem DE.isiE {ι : Type} {X : ι → Cx} {W : WX} {a T : Expr} {c : V} {u : Value} {t : TD D} {p pos : Pos} {K : PySem.W.Frag} (hK : ∀ i, (X i).K = K) (hT : ∀ i, PE (X i) T (tC c)) (hc : ∀ u', RelV c u' → u' = u) (hg : ∀ i, Gl (X i) "isinstance") (hm : ∀ i, (X i).mg "isinstance" = none) (h : DE X W a t)
    (h1 : ∀ i, starEach [a, T] (X i).env = (false, eval a (X i).env) :: starEach [T] (X i).env := by intro _; rfl) (h2 : ∀ i, starEach [T] (X i).env = (false, eval T (X i).env) :: starEach [] (X i).env := by intro _; rfl)
    (hpl : ∀ i, (backTo pos (starEach [T] (X i).env)).any (·.1) = false := by intro _; rfl) : DE X W (.Call (.Name "isinstance" p) [a, T] [] pos) (fun ρ => do fIsX K u (← t ρ)) := by
  obtain ⟨te, pe, r⟩ := h
  refine ⟨tCB (rIsX K) (tCons te (tCons (tC c) tNil)), fun i => by rw [← hK i]; exact pe_callB call_isX (hg i) (hm i) (by decide +kernel) (pa_cons (pe i) (pa_cons (hT i) pa_nil (h2 i)) (h1 i)) (by decide) (by decide) (h1 i) (hpl i), fun F H n σ ρ Kd Kx Q hs ht hq hx => ?_⟩
  refine r F H n σ ρ _ Kx _ hs ht (fun v d F1 H1 n1 g1 hv ht1 => ?_) hx
  cases d with
  | exc C ns ds =>
    obtain ⟨ok, b, e, hk⟩ := ht1
    cases hv with
    | exc fa ha fd hd z l => exact ⟨_, C, _, c, u, b, rfl, ha, (fun dx e' => by cases e'; exact ⟨_, hd⟩), ok, hc, e, hq _ _ F1 H1 n1 g1 (.bl b) hk⟩
    | exc0 fa ha => exact ⟨_, C, _, c, u, b, rfl, ha, (fun dx e' => by cases e'), ok, hc, e, hq _ _ F1 H1 n1 g1 (.bl b) hk⟩
  | _ => exact ht1.elim
theorem relv_ref {a : Addr} : ∀ u', RelV (.ref a) u' → u' = Value.ref a := fun _ h => h

/-! ### try: .. except C: return True -/
def dTryR (K : PySem.W.Frag) (C : Addr) (d : D) (t : TDS) : TDS := fun E ρ n => t { E with ex := fun x ρ' n' => ∃ b, PySem.W.exmOne K (.ref x.C) (.ref C) = some b ∧ (b = true → E.rt d n') ∧ (b = false → E.ex x ρ' n') } ρ n
theorem DS.tryR {ι : Type} {X : ι → Cx} {W : WX} {K : PySem.W.Frag} {x : Str} {C : Addr} {bb : Bool} {body suite : List Stmt} {b₀ : Stmt} {np pos pos' : Pos} {t : TDS} (hK : ∀ k, (X k).K = K) (hs : ∀ k, (X k).stack = (X k).env :: (X k).outer) (hf : ∀ k, (X k).env.frame = some (X k).env.locals) (hc : ∀ k, Names (X k) x (.ref C)) (tk : ∀ k, Takes (X k) W)
    (hb : ∀ W' : WX, DSs (tryX X W') W' body t) (hsu : ∀ k (a : Addr) (oe : Obj) (pn : List (Addr × Obj)), PSs ((X k).suite a ((a, oe) :: pn)) (b₀ :: suite) (tRet (tC (.bl bb)))) :
    DS X W (.Try body [.ExceptHandler (some (.Name x np)) none (b₀ :: suite) pos'] [] [] pos) (dTryR K C (.bl bb) t) := by
  refine ⟨_, fun k => by
    have h := ps_try_only (X := X k) (pos := pos) (pos' := pos') (np := np) (tb := fun W' => Classical.choose (hb W').ex) (ts := fun _ _ _ => tRet (tC (.bl bb))) (Wout := W) (hs k) (hf k) (hc k) (tk k) (fun W' pn xe tk' _ => (Classical.choose_spec (hb W').ex).1 ⟨(k, pn, xe), tk'⟩) (fun a oe cls d pn _ _ => hsu k a oe pn)
    rw [hK k] at h
    exact h, fun B F H m σ ρ E Z s h eo => ?_⟩
  refine (Classical.choose_spec (hb (wOnly K (.ref C) (fun _ _ _ => tRet (tC (.bl bb))) W Z)).ex).2 B F H m σ ρ _ Z s h ⟨eo.nx', eo.bk', eo.ct', eo.rt, fun cls od x σ' ρ' F' H' n' s' l hx he => ?_, eo.nl⟩
  obtain ⟨b, e, hy, hn⟩ := he
  obtain ⟨rfl, _⟩ := id hx
  exact ⟨b, e, fun e1 a na => eo.rt _ (.bl bb) _ _ n' s'.grow (.bl bb) (hy e1), fun e1 => eo.ex' _ od x σ' ρ' F' H' n' s' l hx (hn e1)⟩
theorem s_tryR {K : PySem.W.Frag} {C : Addr} {d : D} {t : TDS} {E : DEnds} {ρ : Env'} {n : Nat} : dTryR K C d t E ρ n = t { E with ex := fun x ρ' n' => ∃ b, PySem.W.exmOne K (.ref x.C) (.ref C) = some b ∧ (b = true → E.rt d n') ∧ (b = false → E.ex x ρ' n') } ρ n := rfl
/-! ### an __init__ without fields -/
theorem init0_ok {P : Program} {w : World} {K : PySem.W.Frag} {mg : Str → Option Value} {base : Heap} {x qual msg : Str} {st : Stmt} {f C : Addr} {fd : FuncData} {N ps : List Str} {k : Nat} (F : Fun K x qual st f fd) (S : FnScope N ps (defScope st)) (T : OexC K C) (hps : ps.length = 1)
    (hbody : ∀ (cdv : Value) (A : Around) (outer : List Env) (s : Shared) (H : Hp) (E : XK), PSs (cxOf (L2.CX P w) P w K mg base N qual (defScope st) f cdv A outer s H E) (defBody st) (tDrop (tVeI K (tCons (tVar 0) (tCons (tC (.str msg)) tNil))))) :
    FnOk P w K mg base (L2.CX P w) (k + 1) f fd ps (spInit0 C) := by
  refine Fun.okX F S (fun vs H Q E h => ?_) fun cdv A outer s H vs Q E hr h => ?_
  · obtain ⟨a, rfl, _⟩ := h
    rw [hps]
    rfl
  · obtain ⟨a, rfl, ea, hq⟩ := h
    exact ⟨_, hbody cdv A outer s H E, _, rfl, a, C, [.str msg], rfl, by simp, T, ea, hq⟩
/-- what of an own error must be seen that it may be made by place and by name -/
structure ErrV (P : Program) (w : World) (K : PySem.W.Frag) (mg : Str → Option Value) (base : Heap) (x : Str) (C : Addr) (fs : List Str) (k : Nat) : Prop where
  ex : ∃ fI fd ps, OexC K C ∧ PySem.W.findIn K (.ref C) "__init__" = some (some (.ref fI)) ∧ PySem.W.typeIn K (.ref fI) = some (.type "function") ∧ FnOk P w K mg base (L2.CX P w) k fI fd ps (spInit C fs) ∧ Binds K fd ps [] ∧ KwB K fd ps fs ∧ ps.length = fs.length + 1 ∧ mg x = some (.ref C)
structure Err0 (P : Program) (w : World) (K : PySem.W.Frag) (mg : Str → Option Value) (base : Heap) (x : Str) (C : Addr) (k : Nat) : Prop where
  ex : ∃ fI fd ps, OexC K C ∧ PySem.W.findIn K (.ref C) "__init__" = some (some (.ref fI)) ∧ PySem.W.typeIn K (.ref fI) = some (.type "function") ∧ FnOk P w K mg base (L2.CX P w) k fI fd ps (spInit0 C) ∧ Binds K fd ps [] ∧ mg x = some (.ref C)
section
variable {P : Program} {w : World} {K : PySem.W.Frag} {mg : Str → Option Value} {base h : Heap}
theorem errV_mk {x qual msg : Str} {st : Stmt} {C f : Addr} {ps fs : List Str} {oc : Value} {od an : Option Addr} {osl : Array (Option Value)} {kV doc pm cdv ct : Value} (X : K.In h) (G : h.Ns mainGlobals mg) (a : PySem.W.nsIn K mainGlobals x = some (some (.ref C))) (T : OexC K C)
    (iC : PySem.W.findIn K (.ref C) "__init__" = some (some (.ref f))) (tI : PySem.W.typeIn K (.ref f) = some (.type "function")) (l : K.lookup f = some ⟨oc, od, .func (PySem.W.fnOf "__init__" qual (defArgs st) (defBody st) (defScope st) .none kV doc pm an cdv ct), osl⟩) (c : PySem.W.codeIn K cdv qual = true) (k : PySem.W.keepIn K (.ref f) = true)
    (no : fs.all (fun y => decide (PySem.W.findIn K (.ref C) y = some none)) = true) (hb : ∀ fd, Fun K "__init__" qual st f fd → Binds K fd ps [])
    (hkw : ∀ (self : Value) (ws : List Value), ws.length = fs.length → bindArgs (PySem.W.fnOf "__init__" qual (defArgs st) (defBody st) (defScope st) .none kV doc pm an cdv ct) ⟨[self], fs.reverse.zip ws⟩ = pure (ps.zip (self :: ws.reverse)))
    (S : FnScope ps ps (defScope st)) (hf : fs ≠ []) (hps : ps.length = fs.length + 1) (hz : fs.length ≤ 800)
    (hbody : ∀ (cdv : Value) (A : Around) (outer : List Env) (s : Shared) (H : Hp) (E : XK), PSs (cxOf (L2.CX P w) P w K mg base ps qual (defScope st) f cdv A outer s H E) (defBody st) (tInit K msg fs)) : ErrV P w K mg base x C fs 1 :=
  have F := fun_mk (st := st) l c k
  ⟨f, _, ps, T, iC, tI, init_ok (k := 0) F S T hf hps hz (fun y hy => by
    have := List.all_eq_true.mp no _ hy
    simpa using this) hbody, hb _ F, fun _ self ws _ hl => .of_eq (hkw self ws hl), hps, PySem.W.mg_of X G a⟩
theorem err0_mk {x qual msg : Str} {st : Stmt} {C f : Addr} {ps : List Str} {oc : Value} {od an : Option Addr} {osl : Array (Option Value)} {kV doc pm cdv ct : Value} (X : K.In h) (G : h.Ns mainGlobals mg) (a : PySem.W.nsIn K mainGlobals x = some (some (.ref C))) (T : OexC K C)
    (iC : PySem.W.findIn K (.ref C) "__init__" = some (some (.ref f))) (tI : PySem.W.typeIn K (.ref f) = some (.type "function")) (l : K.lookup f = some ⟨oc, od, .func (PySem.W.fnOf "__init__" qual (defArgs st) (defBody st) (defScope st) .none kV doc pm an cdv ct), osl⟩) (c : PySem.W.codeIn K cdv qual = true) (k : PySem.W.keepIn K (.ref f) = true)
    (hb : ∀ fd, Fun K "__init__" qual st f fd → Binds K fd ps []) (S : FnScope ps ps (defScope st)) (hps : ps.length = 1)
    (hbody : ∀ (cdv : Value) (A : Around) (outer : List Env) (s : Shared) (H : Hp) (E : XK), PSs (cxOf (L2.CX P w) P w K mg base ps qual (defScope st) f cdv A outer s H E) (defBody st) (tDrop (tVeI K (tCons (tVar 0) (tCons (tC (.str msg)) tNil))))) : Err0 P w K mg base x C 1 :=
  have F := fun_mk (st := st) l c k
  ⟨f, _, ps, T, iC, tI, init0_ok (k := 0) F S T hps hbody, hb _ F, PySem.W.mg_of X G a⟩
end
end DL


set_option maxRecDepth 100000
set_option maxHeartbeats 2000000
/-! DL22: repr of rows with dicts within; {"k": i}. Own work over HandS. -/
namespace DL.Rp
open PySem
/-- no dict of them is sys.modules -/
def NoSys (h : Heap) (as : List Addr) : Prop := ∀ a ∈ as, a = sysModules → ∀ o, h.get? a = some o → o.cls ≠ .type "dict"
section
variable {prog : Program} {w : World} {h₀ : Heap}
mutual

theorem rk_of : ∀ {v : Value} {d : PyData} {as : List Addr}, Reads h₀ v d as → d.showable = true → NoSys h₀ as → d.shown.length ≤ sizeLine → ∃ ls, ReadAtMost h₀ d.depth ls ∧ ReprK prog w ls h₀ d.depth v d.shown
  | _, _, _, .none, _, _, _ => ⟨[], (fun _ h => nomatch h), by simp only [PyData.shown]; exact .of_is ReprIs.none _ _ _⟩
  | _, _, _, .bool b, _, _, _ => ⟨[], (fun _ h => nomatch h), by simp only [PyData.shown]; exact .of_is (ReprIs.bool b) _ _ _⟩
  | _, _, _, .int i t, okS, _, _ => ⟨[], (fun _ h => nomatch h), by simp only [PyData.shown]; exact .of_is (ReprIs.int t (by simpa [PyData.showable] using okS)) _ _ _⟩
  | _, _, _, .str x t, _, _, okZ => ⟨[], (fun _ h => nomatch h), by simp only [PyData.shown]; exact .of_is (ReprIs.str x t (by simpa only [PyData.shown] using okZ)) _ _ _⟩
  | _, _, _, .list (a := a) (vs := vs) (xs := xs) q1 q2 q3 q4, okS, okM, okZ => by
    have okZ' : (listText (PyData.shownAll xs)).length ≤ sizeLine := by simpa only [PyData.shown] using okZ
    obtain ⟨ls, rb, rk⟩ := rka_of q4 (by simpa [PyData.showable] using okS) (fun c hc => okM c (List.mem_cons_of_mem _ hc)) (fun t ht => Nat.le_trans (listText_mem_le ht) okZ')
    have r : Reads h₀ (.ref a) (.list xs) _ := .list q1 q2 q3 q4
    have noA : a ∉ ls := not_mem_of_deeper r (by simp only [PyData.depth]; omega) rb
    refine ⟨a :: ls, ReadAtMost.cons r (by simp only [PyData.depth]; omega) rb, ?_⟩
    simp only [PyData.depth, PyData.shown]
    obtain ⟨l⟩ := vs
    cases l with
    | nil =>
      have h4' : ReadsAll h₀ [] xs _ := q4
      cases h4'
      simp only [PyData.shownAll, listText_nil]
      exact ReprK.listEmpty q1 q2 q3
    | cons x l => exact ReprK.list q1 q2 q3 noA (by simpa using rk.length_eq) (fun i y e => rk.item i y (by simpa using e))
  | _, _, _, .tuple (a := a) (xs := xs) q1 q2 q3 q4, okS, okM, okZ => by
    have okZ' : (tupleText (PyData.shownAll xs)).length ≤ sizeLine := by simpa only [PyData.shown] using okZ
    obtain ⟨ls, rb, rk⟩ := rka_of q4 (by simpa [PyData.showable] using okS) okM (fun t ht => Nat.le_trans (tupleText_mem_le ht) okZ')
    have r : Reads h₀ (.ref a) (.tuple xs) _ := .tuple q1 q2 q3 q4
    have noA : a ∉ ls := not_mem_of_deeper r (by simp only [PyData.depth]; omega) rb
    refine ⟨a :: ls, ReadAtMost.cons r (by simp only [PyData.depth]; omega) rb, ?_⟩
    simp only [PyData.depth, PyData.shown]
    exact ReprK.tuple q1 q2 q3 noA rk
  | _, _, _, .dict (a := a) (es := ents) (kvs := prs) (as := la) (bs := lb) q1 q2 q3 q4 q5, okS, okM, okZ => by
    have okZ' : (dictText (PyData.shownKv prs)).length ≤ sizeLine := by simpa only [PyData.shown] using okZ
    obtain ⟨okS1, okS2⟩ := PyData.showableKv_split prs (by simpa [PyData.showable] using okS)
    obtain ⟨l1, rb1, rk1⟩ := rka_of q4 okS1 (fun c hc => okM c (List.mem_cons_of_mem _ (List.mem_append_left _ hc))) (fun t ht => let ⟨p, hp, hl⟩ := PyData.shownKv_key_le prs t ht; Nat.le_trans hl (Nat.le_trans (dictText_mem_le hp) okZ'))
    obtain ⟨l2, rb2, rk2⟩ := rka_of q5 okS2 (fun c hc => okM c (List.mem_cons_of_mem _ (List.mem_append_right _ hc))) (fun t ht => let ⟨p, hp, hl⟩ := PyData.shownKv_val_le prs t ht; Nat.le_trans hl (Nat.le_trans (dictText_mem_le hp) okZ'))
    have r : Reads h₀ (.ref a) (.dict prs) _ := .dict q1 q2 q3 q4 q5
    have rb : ReadAtMost h₀ (PyData.depthKv prs) (l1 ++ l2) := (rb1.mono (PyData.depthAll_keys_le prs)).append (rb2.mono (PyData.depthAll_vals_le prs))
    have noA : a ∉ l1 ++ l2 := not_mem_of_deeper r (by simp only [PyData.depth]; omega) rb
    have noS : (a == sysModules) = false := beq_eq_false_iff_ne.mpr fun e => okM a (List.mem_cons_self ..) e _ q1 q2
    refine ⟨a :: (l1 ++ l2), ReadAtMost.cons r (by simp only [PyData.depth]; omega) rb, ?_⟩
    simp only [PyData.depth, PyData.shown, PyData.shownKv_eq]
    exact ReprK.dict q1 q2 q3 noS noA (ReprEntriesK.of_two ents.toList _ _
      (rk1.more_le (fun b rb => List.mem_append_left _ rb) (PyData.depthAll_keys_le prs)) (rk2.more_le (fun b rb => List.mem_append_right _ rb) (PyData.depthAll_vals_le prs)))
theorem rka_of : ∀ {vs : List Value} {ds : List PyData} {as : List Addr}, ReadsAll h₀ vs ds as → PyData.showableAll ds = true → NoSys h₀ as → (∀ t ∈ PyData.shownAll ds, t.length ≤ sizeLine) →
    ∃ ls, ReadAtMost h₀ (PyData.depthAll ds) ls ∧ ReprAllK prog w ls h₀ (PyData.depthAll ds) vs (PyData.shownAll ds)
  | _, _, _, .nil, _, _, _ => ⟨[], (fun _ h => nomatch h), by simp only [PyData.shownAll]; exact .nil⟩
  | _, _, _, .cons (d := d) (ds := ds) r rs, okS, okM, okZ => by
    have hs' : d.showable = true ∧ PyData.showableAll ds = true := by simpa [PyData.showableAll] using okS
    obtain ⟨l1, rb1, rk1⟩ := rk_of r hs'.1 (fun c hc => okM c (List.mem_append_left _ hc)) (okZ _ (by simp only [PyData.shownAll]; exact List.mem_cons_self ..))
    obtain ⟨l2, rb2, rk2⟩ := rka_of rs hs'.2 (fun c hc => okM c (List.mem_append_right _ hc)) (fun t ht => okZ t (by simp only [PyData.shownAll]; exact List.mem_cons_of_mem _ ht))
    refine ⟨l1 ++ l2, ?_, ?_⟩
    · intro b mb
      simp only [PyData.depthAll]
      rcases List.mem_append.mp mb with mb | mb
      · obtain ⟨dd, aa, rr, de⟩ := rb1 b mb
        exact ⟨dd, aa, rr, Nat.le_trans de (Nat.le_max_left _ _)⟩
      · obtain ⟨dd, aa, rr, de⟩ := rb2 b mb
        exact ⟨dd, aa, rr, Nat.le_trans de (Nat.le_max_right _ _)⟩
    · simp only [PyData.depthAll, PyData.shownAll]
      exact .cons ((rk1.more fun b rb => List.mem_append_left _ rb).level_le (Nat.le_max_left _ _)) (rk2.more_le (fun b rb => List.mem_append_right _ rb) (Nat.le_max_right _ _))
end

end
section
variable {prog : Program} {w : World} {h₀ : Heap} {a : Addr} {d : PyData} {as : List Addr}
theorem shows_by (r : Reads h₀ (.ref a) d as) (okS : d.showable = true) (okM : NoSys h₀ as)
    (okL : d.shown.length ≤ sizeLine := by size_fits) : ∃ T ir, ShowsBy prog w h₀ a d T ir := by
  cases r with
  | list q1 q2 q3 q4 =>
    rename_i o vs n xs bs₀
    have okZ' : (listText (PyData.shownAll xs)).length ≤ sizeLine := by simpa only [PyData.shown] using okL
    obtain ⟨ls, rb, rk⟩ := rka_of (prog := prog) (w := w) q4 (by simpa [PyData.showable] using okS) (fun c hc => okM c (List.mem_cons_of_mem _ hc)) (fun t ht => Nat.le_trans (listText_mem_le ht) okZ')
    have noA : a ∉ ls := not_mem_of_deeper (.list q1 q2 q3 q4) (by simp only [PyData.depth]; omega) rb
    refine ⟨"list", "list.__repr__", F.slot_list_repr.toG, F.slot_list_str, F.slot_list_format, fun s kept => ⟨o, kept _ _ q1, q2⟩, fun A E s Q gu un kept fin => ?_⟩
    simp only [PyData.depth] at un
    simp only [PyData.shown] at fin
    obtain ⟨l⟩ := vs
    cases l with
    | nil =>
      have h4' : ReadsAll h₀ [] xs _ := q4
      cases h4'
      simp only [PyData.shownAll, listText_nil] at fin
      exact call_list_repr_empty ⟨o, kept _ _ q1, q2⟩ (kept _ _ q1) q3 (fin s.heap _ _ fun _ _ e => e)
    | cons x l =>
      exact call_list_reprK q1 q2 q3 noA (by simpa using rk.length_eq) (fun i y e => rk.item i y (by simpa using e)) gu (fun b _ => Clear.nil b) un kept fin okZ'
  | tuple q1 q2 q3 q4 =>
    rename_i o vs n xs
    have okZ' : (tupleText (PyData.shownAll xs)).length ≤ sizeLine := by simpa only [PyData.shown] using okL
    obtain ⟨ls, rb, rk⟩ := rka_of (prog := prog) (w := w) q4 (by simpa [PyData.showable] using okS) okM (fun t ht => Nat.le_trans (tupleText_mem_le ht) okZ')
    have noA : a ∉ ls := not_mem_of_deeper (.tuple q1 q2 q3 q4) (by simp only [PyData.depth]; omega) rb
    refine ⟨"tuple", "tuple.__repr__", F.slot_tuple_repr, F.slot_tuple_str, F.slot_tuple_format, fun s kept => ⟨o, kept _ _ q1, q2⟩, fun A E s Q gu un kept fin => ?_⟩
    simp only [PyData.depth] at un
    simp only [PyData.shown] at fin
    exact call_tuple_reprK q1 q2 q3 noA rk gu (fun b _ => Clear.nil b) un kept fin okZ'
  | dict q1 q2 q3 q4 q5 =>
    rename_i o ents n prs la lb
    have okZ' : (dictText (PyData.shownKv prs)).length ≤ sizeLine := by simpa only [PyData.shown] using okL
    obtain ⟨okS1, okS2⟩ := PyData.showableKv_split prs (by simpa [PyData.showable] using okS)
    obtain ⟨l1, rb1, rk1⟩ := rka_of (prog := prog) (w := w) q4 okS1 (fun c hc => okM c (List.mem_cons_of_mem _ (List.mem_append_left _ hc))) (fun t ht => let ⟨p, hp, hl⟩ := PyData.shownKv_key_le prs t ht; Nat.le_trans hl (Nat.le_trans (dictText_mem_le hp) okZ'))
    obtain ⟨l2, rb2, rk2⟩ := rka_of (prog := prog) (w := w) q5 okS2 (fun c hc => okM c (List.mem_cons_of_mem _ (List.mem_append_right _ hc))) (fun t ht => let ⟨p, hp, hl⟩ := PyData.shownKv_val_le prs t ht; Nat.le_trans hl (Nat.le_trans (dictText_mem_le hp) okZ'))
    have rb : ReadAtMost h₀ (PyData.depthKv prs) (l1 ++ l2) := (rb1.mono (PyData.depthAll_keys_le prs)).append (rb2.mono (PyData.depthAll_vals_le prs))
    have noA : a ∉ l1 ++ l2 := not_mem_of_deeper (.dict q1 q2 q3 q4 q5) (by simp only [PyData.depth]; omega) rb
    have noS : (a == sysModules) = false := beq_eq_false_iff_ne.mpr fun e => okM a (List.mem_cons_self ..) e _ q1 q2
    refine ⟨"dict", "dict.__repr__", F.slot_dict_repr, F.slot_dict_str, F.slot_dict_format, fun s kept => ⟨o, kept _ _ q1, q2⟩, fun A E s Q gu un kept fin => ?_⟩
    simp only [PyData.depth] at un
    simp only [PyData.shown, PyData.shownKv_eq] at fin
    exact call_dict_reprK q1 q2 q3 noS noA (ReprEntriesK.of_two ents.toList _ _
      (rk1.more_le (fun b rb => List.mem_append_left _ rb) (PyData.depthAll_keys_le prs)) (rk2.more_le (fun b rb => List.mem_append_right _ rb) (PyData.depthAll_vals_le prs))) gu (fun b _ => Clear.nil b) un kept fin (by rw [← PyData.shownKv_eq]; exact okZ')

variable {A : Around} {E : Value → Shared → Prop} {s : Shared} {Q : Value → Shared → Prop}
theorem repr_by (r : Reads h₀ (.ref a) d as) (okS : d.showable = true) (okM : NoSys h₀ as) (gu : A.guards = some []) (un : A.units + (d.depth + 1) < cLine) (kept : ∀ b o, h₀.get? b = some o → s.heap.get? b = some o)
    (fin : ∀ h' u tk, (∀ b o, s.heap.get? b = some o → h'.get? b = some o) → Q (.str d.shown u) { s with heap := h', toks := tk })
    (okL : d.shown.length ≤ sizeLine := by size_fits) : wpAny (model prog w) A (call (.builtin "repr") [.ref a]) Q E s := by
  obtain ⟨T, ir, SB⟩ := shows_by (prog := prog) (w := w) r okS okM okL
  exact call_repr_slot (by omega) (SB.typeIs s kept) SB.slotRepr (SB.call A.in1 E s _ gu (by show A.units + 1 + d.depth < cLine; omega) kept fun h' u tk rk => ⟨_, _, rfl, fin h' u tk rk⟩)

end
end DL.Rp
namespace DL
open PySem PySem.Spec PyProof.Rows L2
mutual
/-- may be shown: no objects -/
def showD : D → Bool
  | .non => true
  | .bl _ => true
  | .int _ => true
  | .str _ => true
  | .tup ds => showL ds
  | .lst ds => showL ds
  | .dic ks ds => decide (ks.length = ds.length) && showL ds
  | .obj _ _ _ => false
  | .exc _ _ _ => false
  | .pen => false
  | .clo _ _ _ => false
  | .fnA _ => false
  | .scr _ _ _ => false
def showL : List D → Bool
  | [] => true
  | d :: ds => showD d && showL ds
end
def keyP : Key → PyData
  | .inl i => .int i
  | .inr x => .str x
theorem pyD_dic {ks : List Key} {ds : List D} : pyD (.dic ks ds) = .dict ((ks.map keyP).zip (pyL ds)) := by
  unfold pyD
  have e : (ks.map fun k => match k with | .inl i => PyData.int i | .inr x => PyData.str x) = ks.map keyP := by
    refine List.map_congr_left fun k _ => ?_
    cases k <;> rfl
  exact congrArg (fun z => PyData.dict (z.zip (pyL ds))) e
theorem pyL_len : ∀ {ds : List D}, (pyL ds).length = ds.length
  | [] => by unfold pyL; rfl
  | d :: ds => by unfold pyL; rw [List.length_cons, List.length_cons, pyL_len]
theorem reads_keys {P : Program} {w : World} {h : Heap} : ∀ {es : List DictEntry} {vs : List (Key × Value)} {kvs : List (Key × V)}, PySem.Pairs (mixKind P w) es vs → KV kvs vs → ReadsAll h (es.map (·.key)) ((kvs.map (·.1)).map keyP) [] ∧ Vals (kvs.map (·.2)) (es.map (·.val))
  | _, _, _, .nil, .nil => ⟨.nil, .nil⟩
  | e :: es, kv :: vs, q :: kvs, .cons hk hv r, .cons h1 t => by
    obtain ⟨a, b⟩ := reads_keys (h := h) r t
    obtain ⟨e1, r1⟩ := h1
    refine ⟨?_, .cons (by show RelV q.2 e.val; rw [hv]; exact r1) b⟩
    have hk : keyIs kv.1 e.key = true := hk
    rw [← e1] at hk
    have k1 : Reads h e.key (keyP q.1) [] := by
      rcases keyIs_shape hk with ⟨i, tk, ek, ev⟩ | ⟨x, tk, ek, ev⟩
      · rw [ek, ev]; exact .int i tk
      · rw [ek, ev]; exact .str x tk
    exact ReadsAll.cons (as := []) (bs := []) k1 a
theorem nosys_nil {h : Heap} : Rp.NoSys h [] := fun _ hc => by cases hc
mutual
theorem Has.readsX {P : Program} {w : World} {h : Heap} {F : Addr → Prop} {H : Hp} (ok : HOk P w H h) : ∀ {v : V} {d : D} {u : Value}, Has F H v d → RelV v u → showD d = true → ∃ as, Reads h u (pyD d) as ∧ Rp.NoSys h as
  | _, _, _, .non, r, _ => by cases r; unfold pyD; exact ⟨[], .none, nosys_nil⟩
  | _, _, _, .bl b, r, _ => by cases r; unfold pyD; exact ⟨[], .bool b, nosys_nil⟩
  | _, _, _, .int i, r, _ => by obtain ⟨t, rfl⟩ := r; unfold pyD; exact ⟨[], .int i t, nosys_nil⟩
  | _, _, _, .str x, r, _ => by obtain ⟨t, rfl⟩ := r; unfold pyD; exact ⟨[], .str x t, nosys_nil⟩
  | _, _, _, .tup (a := a) f hh l, r, e => by
    cases r
    unfold showD at e
    obtain ⟨_, its, rv, o, ho, hc, n, hd⟩ := (show ObjOk P w H h a (.tup _) from ok a _ hh)
    obtain ⟨as, hr, hn'⟩ := HasL.readsX ok l rv e
    unfold pyD
    exact ⟨as, .tuple ho hc hd (by simpa using hr), hn'⟩
  | _, _, _, .lst (a := a) f hh l, r, e => by
    cases r
    unfold showD at e
    obtain ⟨_, its, n, rv, ho⟩ := (show ObjOk P w H h a (.lst _) from ok a _ hh)
    obtain ⟨as, hr, hn'⟩ := HasL.readsX ok l rv e
    unfold pyD
    refine ⟨a :: as, .list ho rfl rfl (by simpa using hr), fun c hc e o ho2 => ?_⟩
    rcases List.mem_cons.mp hc with z | z
    · rw [z, ho] at ho2
      cases ho2
      intro q
      have q : Value.type "list" = Value.type "dict" := q
      injection q with q
      exact absurd q (by decide)
    · exact hn' c z e o ho2
  | _, _, _, .dic (a := a) (kvs := kvs) (ks := ks) (ds := ds) f hh q k l, r, e => by
    cases r
    unfold showD at e
    obtain ⟨e1, e2⟩ := Bool.and_eq_true_iff.mp e
    have e1 := of_decide_eq_true e1
    obtain ⟨_, hs, vs, rel, o, es, ep, ho, hx, hd, _, hp, _⟩ := (show ObjOk P w H h a (.dK kvs) from ok a _ hh)
    obtain ⟨rk, rv⟩ := reads_keys (h := h) hp rel
    obtain ⟨bs, hr, hn'⟩ := HasL.readsX ok l rv e2
    rw [pyD_dic]
    have l1 : (ks.map keyP).length = (pyL ds).length := by rw [List.length_map, pyL_len, e1]
    refine ⟨a :: [] ++ bs, .dict (as := []) (bs := bs) ho hx.1 hd ?_ ?_, fun c hc e o ho2 => ?_⟩
    · rw [List.map_fst_zip (by omega), ← k]
      simpa using rk
    · rw [List.map_snd_zip (by omega)]
      simpa using hr
    · rcases List.mem_cons.mp hc with z | z
      · rw [z] at e
        exact absurd e (beq_eq_false_iff_ne.mp hs)
      · exact hn' c z e o ho2
  | _, _, _, .obj _ _ _ _, _, e => by unfold showD at e; cases e
  | _, _, _, .pen _ _ _ _ _ _, _, e => by unfold showD at e; cases e
  | _, _, _, .clo0 _ _ _ _, _, e => by unfold showD at e; cases e
  | _, _, _, .clo1 _ _ _ _ _ _ _, _, e => by unfold showD at e; cases e
  | _, _, _, .fnA _, _, e => by unfold showD at e; cases e
  | _, _, _, .exc _ _ _ _ _ _, _, e => by unfold showD at e; cases e
  | _, _, _, .exc0 _ _, _, e => by unfold showD at e; cases e
  | _, _, _, .scr _ _, _, e => by unfold showD at e; cases e
theorem HasL.readsX {P : Program} {w : World} {h : Heap} {F : Addr → Prop} {H : Hp} (ok : HOk P w H h) : ∀ {vs : List V} {ds : List D} {us : List Value}, HasL F H vs ds → Vals vs us → showL ds = true → ∃ as, ReadsAll h us (pyL ds) as ∧ Rp.NoSys h as
  | _, _, _, .nil, r, _ => by cases r; unfold pyL; exact ⟨[], .nil, nosys_nil⟩
  | _, _, _, .cons hh l, r, e => by
    unfold showL at e
    obtain ⟨e1, e2⟩ := Bool.and_eq_true_iff.mp e
    cases r with
    | cons r1 r2 =>
      obtain ⟨as, q1, n1⟩ := Has.readsX ok hh r1 e1
      obtain ⟨bs, q2, n2⟩ := HasL.readsX ok l r2 e2
      unfold pyL
      exact ⟨as ++ bs, .cons q1 q2, fun c hc => (List.mem_append.mp hc).elim (n1 c) (n2 c)⟩
end
theorem reads_immX {prog : Program} {w : World} {A : Around} {E : Value → Shared → Prop} {s : Shared} {Q : Value → Shared → Prop} {u : Value} {d : PyData} {as : List Addr} (r : Reads s.heap u d as) (hs : d.showable = true) (hn : Rp.NoSys s.heap as) (hg : A.guards = some []) (hu : A.units + (d.depth + 1) < cLine)
    (hsz : d.shown.length ≤ sizeLine) (hQ : ∀ h' t tk, (∀ b o, s.heap.get? b = some o → h'.get? b = some o) → Q (.str d.shown t) { s with heap := h', toks := tk }) : wpAny (model prog w) A (call (.builtin "repr") [u]) Q E s := by
  cases r with
  | none => exact PySem.P.repr_of_none (hQ s.heap _ _ fun _ _ e => e)
  | bool b => exact PySem.P.repr_of_bool (hQ s.heap _ _ fun _ _ e => e)
  | int i t => exact PySem.P.repr_of_int (of_decide_eq_true hs) (hQ s.heap _ _ fun _ _ e => e)
  | str x t => exact PySem.P.repr_of_str (hQ s.heap _ _ fun _ _ e => e) hsz
  | list h1 h2 h3 h4 => exact Rp.repr_by (.list h1 h2 h3 h4) hs hn hg hu (fun _ _ e => e) hQ hsz
  | tuple h1 h2 h3 h4 => exact Rp.repr_by (.tuple h1 h2 h3 h4) hs hn hg hu (fun _ _ e => e) hQ hsz
  | dict h1 h2 h3 h4 h5 => exact Rp.repr_by (.dict h1 h2 h3 h4 h5) hs hn hg hu (fun _ _ e => e) hQ hsz
structure ShowsX (d : D) : Prop where
  ok : showD d = true
  show_ : (pyD d).showable = true
  dep : (pyD d).depth ≤ 40
  len : (pyD d).shown.length ≤ sizeLine
/-- small, and may be shown -/
structure SmallX (d : D) : Prop where
  ok : showD d = true
  show_ : (pyD d).showable = true
  short : (pyD d).leavesShort 202 = true
  dep : (pyD d).depth ≤ 10
  bulk : (pyD d).bulk ≤ 100
def rReprX : List V → Hp → VK → Prop := fun vs H Q => ∃ (x : V) (d : D) (F : Addr → Prop), vs = [x] ∧ Has F H x d ∧ ShowsX d ∧ Q (.str (shw d)) H
section
variable {X : Cx}
theorem call_reprX (hg : X.A.guards = some []) (hu : X.A.units + 64 < cLine) : CallR X (.builtin "repr") rReprX := by
  intro pins s σ H xs us Q I r h
  obtain ⟨x, d, F, rfl, hd, sh, q⟩ := h
  obtain ⟨u, rfl, ru⟩ := vals1 r
  have dep := sh.dep
  obtain ⟨as, rd, hn⟩ := hd.readsX I.hok ru sh.ok
  exact reads_immX rd sh.show_ hn hg (by omega) sh.len fun h' t tk k => ⟨.str _, H, I.kept k, ⟨_, rfl⟩, q⟩
end
def fReprX : List D → Wm D
  | [d] => do Wm.need (ShowsX d); pure (.str (shw d))
  | _ => Wm.fail
theorem sem_reprX : SemL rReprX fReprX := by
  intro F H n xs as Kd Q pb hx ht hq
  cases hx with
  | nil => exact ht.elim
  | cons h1 h2 =>
    cases h2 with
    | nil => exact ⟨_, _, F, rfl, h1, ht.1, hq _ _ F H n (.refl pb) (.str _) ht.2⟩
    | cons _ _ => exact ht.elim
theorem fReprX_at {d : D} {K : D → Nat → Prop} {X : XD → Nat → Prop} {n : Nat} : fReprX [d] K X n = (ShowsX d ∧ K (.str (shw d)) n) := rfl
/-- {"k": i} -/
theorem DE.dic1 {ι : Type} {X : ι → Cx} {W : WX} {x : Str} {i : Int} {j1 j2 : Nat} {p1 p2 pos : Pos} (hx : (x == ("cells" : Str)) = false) : DE X W (.Dict [some (.Constant (.str x) j1 p1)] [.Constant (.int i) j2 p2] pos) (fun _ => pure (.dic [.inr x] [.int i])) := by
  refine ⟨_, fun k => pe_disp (pps_cons pe_str pe_int pps_nil) (by rfl) (by rfl) (by simp) (by simp), fun F H n σ ρ Kd Kx Q hs ht hq hx' p hp => ?_⟩
  refine ⟨upd_same, [(.inr x, .int i)], rfl, by simp, ?_⟩
  rw [upd_upd]
  have g : Grow F H n (plusF F p) (upd H p (.dK (mergeK [] [(.inr x, .int i)]))) n := .laid hs.pb hp (.dK hx)
  exact hq _ (.dic [.inr x] [.int i]) _ _ n g (.dic plusF_same upd_same hx rfl (.cons (.int i) .nil)) ht
/-- a, b, c = a list -/
def dgLst (m : Nat) (gs : TDGs) : TDG := fun d ρ => match d with | .lst ds => if ds.length = m then gs ds ρ else none | _ => none
theorem DG.lst {ι : Type} {X : ι → Cx} {es : List Expr} {k m : Nat} {pos : Pos} {gs : TDGs} {ts : List Nat} {K : PySem.W.Frag} (hK : ∀ i, (X i).K = K) (hc : ∀ i, (X i).calm = true) (h : DGs X es gs ts)
    (hn : ∀ i, (assignEach es (X i).env).length = m := by intro _; rfl) (hst : ∀ i, (assignEach es (X i).env).findIdx? (·.1) = none := by intro _; rfl) :
    DG X (.Tuple es k pos) (dgLst m gs) ts := by
  obtain ⟨tg, p, r⟩ := h
  refine ⟨gLst K m tg, fun i => by rw [← hK i]; exact pg_lst (hc i) (p i) (hn i) (hst i), fun F H n σ ρ ρ' v d Q s hv e hq => ?_⟩
  cases hv with
  | @lst a vs ds f ha hl =>
    have e : (if ds.length = m then gs ds ρ else none) = some ρ' := e
    by_cases hm : ds.length = m
    · rw [if_pos hm] at e
      exact ⟨a, vs, rfl, .of ha, by rw [hl.len]; exact hm, r F H n σ ρ ρ' vs ds Q s hl e hq⟩
    · rw [if_neg hm] at e
      cases e
  | _ => cases e
theorem g_lst3 {g : TDGs} {a b c : D} {ρ : Env'} : dgLst 3 g (.lst [a, b, c]) ρ = g [a, b, c] ρ := rfl
/-! ### the classes of errors -/
def excB (K : PySem.W.Frag) (D : Addr) : Bool := decide (PySem.W.findIn K (.ref D) "__getattribute__" = some (some (.builtin "BaseException.__getattribute__"))) && (decide (PySem.W.findIn K (.ref D) "__getattr__" = some none) && (decide (PySem.W.subIn K (.ref D) (.type "BaseException") = some true) && (PySem.W.hasDictIn K D && (decide (PySem.W.findIn K (.ref D) "__class__" = some (some (.builtin "object.__class__"))) &&
  (decide (PySem.W.specialIn K (.builtin "object.__class__") "__get__" = some (some (.builtin "getset_descriptor.__get__"))) && (decide (PySem.W.takesIn K (.builtin "object.__class__") = some true) && decide (PySem.W.mroIn K D (.type "object") = some true)))))))
theorem excB_ok {K : PySem.W.Frag} {D : Addr} (h : excB K D = true) : ExcC K D := by
  simp only [excB, Bool.and_eq_true, decide_eq_true_eq] at h
  obtain ⟨h1, h2, h3, h4, h5, h6, h7, h8⟩ := h
  exact ⟨h1, h2, h3, h4, h5, h6, h7, h8⟩
/-- each is of its own class alone; all are of the class CD -/
def kindsB (K : PySem.W.Frag) (CD : Addr) (L : List (Str × Addr)) : Bool := L.all fun p => excB K p.2 && (decide (PySem.W.kitOne K (.ref p.2) (.ref CD) = some true) && L.all fun q => decide (PySem.W.kitOne K (.ref p.2) (.ref q.2) = some (decide (p.1 = q.1))))
theorem kindsB_ok {K : PySem.W.Frag} {CD : Addr} {L : List (Str × Addr)} (h : kindsB K CD L = true) {p : Str × Addr} (hp : p ∈ L) : ExcC K p.2 ∧ PySem.W.kitOne K (.ref p.2) (.ref CD) = some true ∧ ∀ q ∈ L, PySem.W.kitOne K (.ref p.2) (.ref q.2) = some (decide (p.1 = q.1)) := by
  have h := List.all_eq_true.mp h p hp
  simp only [Bool.and_eq_true, decide_eq_true_eq, List.all_eq_true] at h
  exact ⟨excB_ok h.1, h.2.1, h.2.2⟩
/-- their fields may be read -/
def attB (K : PySem.W.Frag) (L : List (Addr × List Str)) : Bool := L.all fun p => xfB K p.1 && p.2.all fun f => decide (PySem.W.findIn K (.ref p.1) f = some none)
theorem attB_ok {K : PySem.W.Frag} {L : List (Addr × List Str)} (h : attB K L = true) {C : Addr} {fs : List Str} (hp : (C, fs) ∈ L) {f : Str} (hf : f ∈ fs) : XfC K C ∧ PySem.W.findIn K (.ref C) f = some none := by
  have h := List.all_eq_true.mp h _ hp
  simp only [Bool.and_eq_true, decide_eq_true_eq, List.all_eq_true] at h
  exact ⟨xfB_ok h.1, h.2 f hf⟩
end DL


set_option maxRecDepth 100000
set_option maxHeartbeats 2000000
/-! DL23: objects of own classes: their fields, their making. Own work over HandS. -/
namespace DL
open PySem PySem.Spec PyProof.Rows L2
/-! ### e.f of an own object -/
def fldW (K : PySem.W.Frag) (f : Str) : D → Wm D
  | .obj C ns ds => fun Kd _ n => ∃ d, Cls K C ∧ NoAttr K C f ∧ fieldD ns ds f = some d ∧ Kd d n
  | _ => Wm.fail
theorem DE.fld {ι : Type} {X : ι → Cx} {W : WX} {K : PySem.W.Frag} {e : Expr} {t : TD D} {pos : Pos} {f : Str} (hK : ∀ i, (X i).K = K) (h : DE X W e t) (hb : ∀ i, attributeBase e f (X i).env (eval e (X i).env) = eval e (X i).env := by intro _; rfl) : DE X W (.Attribute e f pos) (fun ρ => do fldW K f (← t ρ)) := by
  obtain ⟨te, pe, re⟩ := h
  refine ⟨tFld K te f, fun i => by rw [← hK i]; exact pe_fld (pe i) (hb i), fun F H n σ ρ Kd Kx Q hs ht hq hx => ?_⟩
  refine re F H n σ ρ _ Kx _ hs ht (fun v d F1 H1 n1 g1 hv hk => ?_) hx
  cases d with
  | obj C ns ds =>
    obtain ⟨d, T, no, e, hk⟩ := hk
    cases hv with
    | obj fa ha z l =>
      rw [← z] at e
      obtain ⟨v, e2, hv2⟩ := field_has l e
      exact ⟨_, C, _, _, v, rfl, ha, T, no, e2, hq v d F1 H1 n1 g1 hv2 hk⟩
  | _ => exact hk.elim
/-! ### self.f = e, self being made -/
def putNs (f : Str) : List Str → List Str
  | [] => [f]
  | g :: r => if g = f then g :: r else g :: putNs f r
def putDs (f : Str) (d : D) : List Str → List D → List D
  | g :: r, x :: xs => if g = f then d :: xs else x :: putDs f d r xs
  | _, _ => [d]
theorem put_has {F : Addr → Prop} {H : Hp} {f : Str} {v : V} {d : D} (hv : Has F H v d) : ∀ {fs : List (Str × V)} {ds : List D}, HasL F H (fs.map (·.2)) ds → (putF f v fs).map (·.1) = putNs f (fs.map (·.1)) ∧ HasL F H ((putF f v fs).map (·.2)) (putDs f d (fs.map (·.1)) ds)
  | [], ds, l => by
    cases l
    exact ⟨rfl, .cons hv .nil⟩
  | (g, x) :: r, ds, l => by
    cases l with
    | cons h l =>
      obtain ⟨i1, i2⟩ := put_has (f := f) hv l
      by_cases e : g = f
      · refine ⟨?_, ?_⟩
        · simp [putF, putNs, e]
        · simp only [putF, putDs, if_pos e, List.map_cons]
          exact .cons hv l
      · refine ⟨?_, ?_⟩
        · simp [putF, putNs, e, i1]
        · simp only [putF, putDs, if_neg e, List.map_cons]
          exact .cons h i2
def dSetF (K : PySem.W.Frag) (k : Nat) (f : Str) (t : TD D) : TDS := fun E => onE t (fun d ρ n => match ρ[k]? with
  | some (some (.m ⟨at0, .obj C ns ds⟩)) => Cls K C ∧ NoAttr K C f ∧ ns.length < 1000 ∧ E.nx (ρ.set k (some (.m ⟨at0, .obj C (putNs f ns) (putDs f d ns ds)⟩))) n
  | _ => False) E
theorem DS.setF {ι : Type} {X : ι → Cx} {W : WX} {K : PySem.W.Frag} {k : Nat} {o e : Expr} {f : Str} {t : TD D} {pos pos' : Pos} (hK : ∀ i, (X i).K = K) (ho : ∀ i, PE (X i) o (tVar k)) (h : DE X W e t)
    (hs : ∀ i, swapsWith e (some (.Attribute o f pos')) pos.line (X i).env = pure false := by intro _; rfl) : DS X W (.Assign [.Attribute o f pos'] e pos) (dSetF K k f t) := by
  obtain ⟨te, p, r⟩ := h
  refine ⟨sFld K (tVar k) te f, fun i => by rw [← hK i]; exact ps_fld (ho i) (p i) (hs i), fun B F H n σ ρ E Z s h eo => ?_⟩
  refine r.on s h eo fun v d F' H' n' s' g hv hk eo' => ?_
  match e : ρ[k]? with
  | some (some (.d _)) => rw [e] at hk; exact hk.elim
  | some none => rw [e] at hk; exact hk.elim
  | none => rw [e] at hk; exact hk.elim
  | some (some (.m ⟨at0, x⟩)) =>
    rw [e] at hk
    cases x with
    | obj C ns ds =>
      obtain ⟨c, no, hl, hk⟩ := hk
      obtain ⟨v0, e1, a, o, rfl, ha, ⟨dx, fs, rfl, z, l⟩, nf, hat⟩ := s'.hs.at_ k _ e
      obtain ⟨p1, p2⟩ := put_has (f := f) hv l
      rw [z] at p1 p2
      have fl : fs.length < 1000 := by
        have q := congrArg List.length z
        rw [List.length_map] at q
        omega
      obtain ⟨s2, l2⟩ := s'.own_putG (ds' := ⟨at0, .obj C (putNs f ns) (putDs f d ns ds)⟩) e e1 ha nf (o' := .ins C dx (putF f v fs)) ⟨dx, _, rfl, p1, p2⟩ hat
      exact ⟨_, e1, a, C, dx, fs, rfl, ha, c, no, fl, eo'.nx σ _ F' _ n' s2 l2 hk⟩
    | _ => exact hk.elim
/-! ### an __init__ -/
/-- what an __init__'s body gives: the object as it is at the end -/
def endI (x : Addr) (K : D → Nat → Prop) (ρ' : Env') (n' : Nat) : Prop := match ρ'[(0 : Nat)]? with
  | some (some (.m ⟨some y, .obj C' ns es⟩)) => y = x ∧ K (.obj C' ns es) n'
  | _ => False
def bodyI (t : TDS) (N : Nat) (C x : Addr) (ds : List D) : Wm D := fun K X n => t { nx := endI x K, rt := fun _ _ => False, bk := fun _ _ => False, ct := fun _ _ => False, ex := fun z _ n' => X z n' } (some (.m ⟨some x, .obj C [] []⟩) :: (ds.map (fun d => some (.d d)) ++ List.replicate (N - 1 - ds.length) none)) n
/-- the promise of an __init__ with m further values, objects of the class at C -/
def spI (m : Nat) (C : Addr) (w : List D → Wm D) : Sp := fun vs H Q E => vs.length = m + 1 ∧ ∃ (F0 : Addr → Prop) (H0 : Hp) (n : Nat) (x dx : Addr) (us : List V) (ds : List D) (K : D → Nat → Prop) (X : XD → Nat → Prop), vs = .ref x :: us ∧ PenB F0 H0 n ∧ HasL F0 H0 us ds ∧
  H0 x = none ∧ H0 dx = none ∧ dx ≠ x ∧ H = upd (upd H0 dx (.own x)) x (.ins C dx []) ∧ w ds K X n ∧
  (∀ d F' H' n', Grow F0 H0 n F' H' n' → Has F' H' (.ref x) d → K d n' → Q .non H') ∧ (∀ cls od xd F' H' n', Grow F0 H0 n F' H' n' → HasX F' H' cls od xd → X xd n' → E cls od H')
theorem Hard.own {a : Addr} : Hard (.own a) := ⟨fun _ _ e => (by cases e), fun _ e => (by cases e)⟩
theorem laid_not {F : Addr → Prop} {H : Hp} {n : Nat} {p : Addr} {o : HO} (pb : PenB F H n) (hp : H p = none) (hn : Hard o) : Grow F H n F (upd H p o) n :=
  ⟨(Grow.laid pb hp hn).keep, fun _ f => f, fun _ f => .inl f, pb.put (pb.out hp) hn, Nat.le_refl _⟩
theorem init_at {F0 F : Addr → Prop} {H : Hp} {n : Nat} {C x dx : Addr} {us : List V} {ds : List D} {N : List Str} (pb : PenB F H n) (hx : H x = some (.ins C dx [])) (nf : ¬ F x) (h : HasL F H us ds) :
    HasS F H n (L2.start N (.ref x :: us)) (some (.m ⟨some x, .obj C [] []⟩) :: (ds.map (fun d => some (.d d)) ++ List.replicate (N.length - 1 - ds.length) none)) := by
  have s0 := start_hasS (N := N) pb (.cons (.non : Has F H .non .non) h)
  have e1 : L2.start N (.ref x :: us) = (L2.start N (.non :: us)).set 0 (some (.ref x)) := by
    unfold L2.start
    simp
  have e2 : (some (SV.m ⟨some x, .obj C [] []⟩) :: (ds.map (fun d => some (SV.d d)) ++ List.replicate (N.length - 1 - ds.length) none)) = (((D.non :: ds).map (fun d => some (SV.d d)) ++ List.replicate (N.length - (D.non :: ds).length) none).set 0 (some (.m ⟨some x, .obj C [] []⟩))) := by
    have : N.length - (ds.length + 1) = N.length - 1 - ds.length := by omega
    simp [this]
  rw [e1, e2]
  exact s0.set ⟨x, .ins C dx [], rfl, hx, ⟨dx, [], rfl, rfl, .nil⟩, nf, fun b e => by cases e; rfl⟩
theorem fn_okI {P : Program} {w : World} {K : PySem.W.Frag} {mg : Str → Option Value} {base : Heap} {x qual : Str} {st : Stmt} {f C : Addr} {fd : FuncData} {N ps : List Str} {m k : Nat} {t : TDS} {w' : List D → Wm D} (F : Fun K x qual st f fd) (S : FnScope N ps (defScope st)) (hps : ps.length = m + 1)
    (hbody : ∀ (cdv : Value) (A : Around) (outer : List Env) (s : Shared) (H : Hp) (E : XK), A.guards = some [] → Room k (A.deeper (envOfC qual (defScope st) s.heap.objs.size f cdv)) → DSs (bCx P w K mg base N qual st f cdv A outer s H E) (bW E) (defBody st) t)
    (hw : ∀ x ds Kd Kx n, ds.length = m → w' ds Kd Kx n → bodyI t N.length C x ds Kd Kx n) : FnG P w K mg base (k + 1) f fd ps (spI m C w') := by
  refine FnG.of F S (fun vs H Q E h => by rw [hps]; exact h.1) fun cdv _ A outer s H vs Q E hg hr h => ?_
  obtain ⟨hl, F0, H0, n, x, dx, us, ds, Kd, Kx, rfl, pb, hv, hx0, hd0, ne, rfl, hw', hq, hx⟩ := h
  obtain ⟨ts, p, r⟩ := hbody cdv A outer s _ E hg hr
  refine ⟨ts, p (), ?_⟩
  have hd : ds.length = m := by
    rw [← hv.len]
    simpa using hl
  have h0 := hw x ds Kd Kx n hd hw'
  unfold bodyI at h0
  have g1 := laid_not (o := .own x) pb hd0 .own
  have hx1 : upd H0 dx (.own x) x = none := by rw [upd_ne (Ne.symm ne)]; exact hx0
  have g2 := laid_not (o := .ins C dx []) g1.pb hx1 .ins
  have g := g1.trans g2
  have nf : ¬ F0 x := pb.out hx0
  refine r ⟨F0, H0, n⟩ F0 _ n _ _ _ _ ⟨g, init_at (F0 := F0) g.pb upd_same nf (hv.mono g), fun i es a e e1 => ?_, fun i j es fs a hne e f e1 f1 => ?_⟩ h0 ⟨fun σ' ρ' F' H' n' s' l hn => ?_, fun _ _ _ _ _ _ _ z => z.elim, fun _ _ _ _ _ _ _ z => z.elim, fun _ _ _ _ _ _ _ z => z.elim, fun cls od xd σ' ρ' F' H' n' s' l hx' he => hx cls od xd F' H' n' s'.grow hx' he, fun z => z.elim⟩
  · cases i with
    | zero =>
      have : (V.ref x) = .ref a := by
        unfold L2.start at e1
        simpa using e1
      cases this
      exact hx0
    | succ i => exact absurd e start_noml
  · cases i with
    | zero =>
      cases j with
      | zero => exact hne rfl
      | succ j => exact absurd f start_noml
    | succ i => exact absurd e start_noml
  · have hn2 : endI x Kd ρ' n' := hn
    clear hn
    unfold endI at hn2
    match e : ρ'[(0 : Nat)]? with
    | some (some (.d _)) => rw [e] at hn2; exact hn2.elim
    | some none => rw [e] at hn2; exact hn2.elim
    | none => rw [e] at hn2; exact hn2.elim
    | some (some (.m ⟨none, _⟩)) => rw [e] at hn2; exact hn2.elim
    | some (some (.m ⟨some y, z⟩)) =>
      rw [e] at hn2
      cases z with
      | obj C' ns es =>
        obtain ⟨rfl, hn3⟩ := hn2
        obtain ⟨v0, e1, a, o, rfl, ha, ho, nfa, hat⟩ := s'.hs.at_ 0 _ e
        have eax := hat y rfl
        subst eax
        have g3 : Grow F0 H0 n (plusF F' a) H' n' := ⟨s'.grow.keep, fun b f => .inl (s'.grow.sub b f), fun b f => by
          rcases f with f | rfl
          · exact s'.grow.new b f
          · exact .inr hx0, s'.hs.pb.sup (fun b f => .inl f) (fun b f => by
          rcases f with f | rfl
          · exact s'.hs.pb.dom b f
          · exact ⟨_, ha⟩), s'.grow.le⟩
        have l3 : Later F' H' n' (plusF F' a) H' n' := ⟨fun _ _ _ h => .inl h, fun _ f => .inl f, Nat.le_refl _⟩
        exact hq _ _ _ n' g3 ((ho.later l3).has plusF_same ha) hn3
      | _ => exact hn2.elim
end DL


set_option maxRecDepth 100000
set_option maxHeartbeats 2000000
/-! DL24: C(e, ..), C(f = e, ..), C() of own classes. Own work over HandS. -/
namespace DL
open PySem PySem.Spec PyProof.Rows L2
theorem make_guards {A : Around} {C : Addr} {us : List Value} {kw : List (Str × Value)} (h : A.guards = some []) : (A.under (.builtin "type.__call__" ⟨.ref C :: us, kw⟩)).guards = some [] := by
  first
    | exact h
    | simpa [Around.under] using h
section
variable {X : Cx} {W : WX} {k : Nat} {f C : Addr} {fd : FuncData} {ps ks : List Str} {sp : Sp} {x : Str} {p pos : Pos} {e : Expr} {es : List Expr} {kws : List Keyword} {t tk : TA}
theorem run_makeG {pins : List (Addr × Obj)} {σ : L2.St} {H : Hp} {s : Shared} {Q : VK} {us bs : List Value} {kw : List (Str × Value)} {vs : List V} {E : XK} (M : Mk X.K C f) (F : FnG X.prog X.w X.K X.mg X.base k f fd ps sp) (hgd : X.A.guards = some []) (hr : Room (k + 1) X.A)
    (hx : PassesAt (L2.CX X.prog X.w) X σ E) (I : Inv X pins σ H s) (r : Vals vs bs) (hb : ∀ (s' : Shared) (a : Value), X.K.In s'.heap → BindsTo s' fd ⟨a :: us, kw⟩ (ps.zip (a :: bs)))
    (h : ∀ x dx, H x = none → H dx = none → dx ≠ x → sp (.ref x :: vs) (upd (upd H dx (.own x)) x (.ins C dx [])) (fun v H2 => v = .non ∧ Q (.ref x) H2) E) :
    wpAny (model X.prog X.w) X.A (call (.ref C) us kw) (EP X pins σ Q) X.xe s := by
  have hq := h (s.heap.objs.size + 1) s.heap.objs.size (I.hok.fresh (Nat.le_succ _)) (I.hok.fresh (Nat.le_refl _)) (Nat.ne_of_lt (Nat.lt_succ_self _))
  have I2 := Inv.made (C := C) I
  have r2 : Vals (V.ref (s.heap.objs.size + 1) :: vs) (Value.ref (s.heap.objs.size + 1) :: bs) := .cons rfl r
  refine wpAny_call (make_map (f := f) I.kIn M.makes M.init (beq_iff_eq.mp M.fn) (codeAny_mono (F.run _ X.stack _ _ ⟨Value.ref (s.heap.objs.size + 1) :: us, kw⟩ (Value.ref (s.heap.objs.size + 1) :: bs) _ _ E (make_guards hgd) (hr.make C us kw)
    (I2.env0.make C us kw) (hb _ _ I2.kIn) r2 hq) fun r s' hq' => ?_))
  cases r with
  | error e => exact hx pins _ _ e s' I2 hq'
  | ok fl =>
    cases fl with
    | ret u =>
      obtain ⟨v, H', I3, rv, ev, q3⟩ := I2.after hq'
      subst ev
      exact ⟨rv, ⟨V.ref (s.heap.objs.size + 1), H', I3, rfl, q3⟩⟩
    | next => exact False.elim hq'
    | brk => exact False.elim hq'
    | cont => exact False.elim hq'
def tMkS (C : Addr) (sp : Sp) (W : WX) (r : Bool) (t : TA) : TE := fun σ H Q => t σ H fun vs H1 => ∀ x dx, H1 x = none → H1 dx = none → dx ≠ x → sp (.ref x :: (if r then vs.reverse else vs)) (upd (upd H1 dx (.own x)) x (.ins C dx [])) (fun v H2 => v = .non ∧ Q (.ref x) H2) (WE W σ)
/-- how the keywords of C(g = .., f = ..) are bound, the last field first (r), or in the fields' order -/
def KwC (r : Bool) (K : PySem.W.Frag) (fd : FuncData) (ps fs : List Str) : Prop := ∀ (s : Shared) (a : Value) (ws : List Value), K.In s.heap → ws.length = fs.length → BindsTo s fd ⟨[a], (if r then fs.reverse else fs).zip ws⟩ (ps.zip (a :: (if r then ws.reverse else ws)))
theorem pe_mkG (M : Mk X.K C f) (F : FnG X.prog X.w X.K X.mg X.base k f fd ps sp) (hgd : X.A.guards = some []) (hr : Room (k + 1) X.A) (tkx : Takes X W) (hg : Gl X x) (hm : X.mg x = some (.ref C)) (hb : Binds X.K fd ps [])
    (ha : PA X (e :: es) t) (hdb : (x == ("__debug__" : Str)) = false := by decide) (he : starEach (e :: es) X.env = (false, eval e X.env) :: starEach es X.env := by rfl) (hpl : (backTo pos (starEach es X.env)).any (·.1) = false := by rfl) :
    PE X (.Call (.Name x p) (e :: es) [] pos) (tMkS C sp W false t) := by
  refine ⟨fun pins s σ H Q I h => ?_⟩
  refine wpAny_Call_Name_kw (ld_glob I hg hm ?_ hdb)
  refine PySem.W.callWith_K (h₀ := X.base) I.ok.mod.kin M.kp (thn (ha.run pos pins s σ H _ I h) fun us s1 ⟨vs, H1, I1, r, q⟩ => ⟨I1.kIn, ?_⟩) he hpl
  have q : ∀ x dx, H1 x = none → H1 dx = none → dx ≠ x → sp (.ref x :: vs) (upd (upd H1 dx (.own x)) x (.ins C dx [])) (fun v H2 => v = .non ∧ Q (.ref x) H2) (WE W σ) := q
  refine run_makeG (us := us) (kw := []) M F hgd hr (passAt tkx σ) I1 r (fun s' a X' => ?_) q
  have hl : (a :: us).length = ps.length := by
    have e1 := F.len _ _ _ _ (q (s1.heap.objs.size + 1) s1.heap.objs.size (I1.hok.fresh (Nat.le_succ _)) (I1.hok.fresh (Nat.le_refl _)) (Nat.ne_of_lt (Nat.lt_succ_self _)))
    rw [← e1, List.length_cons, List.length_cons, r.length]
  have b := hb s' (a :: us) X' (by rw [List.append_nil]; exact hl)
  rw [List.append_nil] at b
  exact b
theorem pe_mkK {r : Bool} {fs : List Str} (M : Mk X.K C f) (F : FnG X.prog X.w X.K X.mg X.base k f fd ps sp) (hgd : X.A.guards = some []) (hr : Room (k + 1) X.A) (tkx : Takes X W) (hg : Gl X x) (hm : X.mg x = some (.ref C)) (hb : KwC r X.K fd ps fs) (hps : ps.length = fs.length + 1)
    (hkw : PK X kws tk) (hall : (backToKw pos (keywordEach kws X.env)).all (·.1.isSome) = true := by rfl) (hks : (backToKw pos (keywordEach kws X.env)).filterMap (·.1) = (if r then fs.reverse else fs) := by rfl) (hdb : (x == ("__debug__" : Str)) = false := by decide)
    (hpl : ((backTo pos (starEach [] X.env)).any (·.1) || (backToKw pos (keywordEach kws X.env)).any (·.1.isNone)) = false := by rfl) :
    PE X (.Call (.Name x p) [] kws pos) (tMkS C sp W r tk) := by
  refine ⟨fun pins s σ H Q I h => ?_⟩
  refine wpAny_Call_Name_kw (ld_glob I hg hm ?_ hdb)
  refine PySem.W.callWith_KW0 (h₀ := X.base) I.ok.mod.kin M.kp hall ?_ hpl
  refine thn (hkw.run pos pins s σ H _ I h) fun ws s2 ⟨zs, H2, I2, rz, q2⟩ => ⟨I2.kIn, ?_⟩
  rw [hks]
  have q2 : ∀ x dx, H2 x = none → H2 dx = none → dx ≠ x → sp (.ref x :: (if r then zs.reverse else zs)) (upd (upd H2 dx (.own x)) x (.ins C dx [])) (fun v H3 => v = .non ∧ Q (.ref x) H3) (WE W σ) := q2
  have hl : ws.length = fs.length := by
    have e1 := F.len _ _ _ _ (q2 (s2.heap.objs.size + 1) s2.heap.objs.size (I2.hok.fresh (Nat.le_succ _)) (I2.hok.fresh (Nat.le_refl _)) (Nat.ne_of_lt (Nat.lt_succ_self _)))
    rw [← rz.length]
    cases r <;> simp [hps] at e1 <;> omega
  refine run_makeG (us := []) M F hgd hr (passAt tkx σ) I2 (bs := if r then ws.reverse else ws) ?_ (fun s' a X' => hb s' a ws X' hl) q2
  cases r
  · exact rz
  · exact vals_rev rz
/-- C() where there is no __init__ but object's -/
structure Mk0 (K : PySem.W.Frag) (C : Addr) : Prop where
  makes : PySem.W.makesIn K C = true
  init : PySem.W.findIn K (.ref C) "__init__" = some (some (.builtin "object.__init__"))
  kp : PySem.W.keepIn K (.ref C) = true
  top : PySem.W.mroIn K C (.type "object") = some true
end
/-! ### the same by data -/
section
variable {ι : Type} {X : ι → Cx} {W : WX} {x : Str} {C f : Addr} {k m : Nat} {fd : FuncData} {ps fs : List Str} {e : Expr} {es : List Expr} {kws : List Keyword} {t : TD (List D)} {p pos : Pos} {w : List D → Wm D}
theorem mk_sp {F1 : Addr → Prop} {H1 : Hp} {n1 : Nat} {vs : List V} {ds : List D} {K : D → Nat → Prop} {Kx : XD → Nat → Prop} {Q : VK} {E : XK} (pb : PenB F1 H1 n1) (hv : HasL F1 H1 vs ds) (hl : ds.length = m) (hk : w ds K Kx n1)
    (hq : ∀ v d F' H' n', Grow F1 H1 n1 F' H' n' → Has F' H' v d → K d n' → Q v H') (hx : ∀ cls od xd F' H' n', Grow F1 H1 n1 F' H' n' → HasX F' H' cls od xd → Kx xd n' → E cls od H') (y dx : Addr) (h1 : H1 y = none) (h2 : H1 dx = none) (ne : dx ≠ y) :
    spI m C w (.ref y :: vs) (upd (upd H1 dx (.own y)) y (.ins C dx [])) (fun v H2 => v = .non ∧ Q (.ref y) H2) E :=
  ⟨by rw [List.length_cons, hv.len, hl], F1, H1, n1, y, dx, vs, ds, K, Kx, rfl, pb, hv, h1, h2, ne, rfl, hk, fun d F' H' n' g h k => ⟨rfl, hq _ d F' H' n' g h k⟩, hx⟩
theorem DE.mkO (M : ∀ i, Mk (X i).K C f) (F : ∀ i, FnG (X i).prog (X i).w (X i).K (X i).mg (X i).base k f fd ps (spI m C w)) (hgd : ∀ i, (X i).A.guards = some []) (hr : ∀ i, Room (k + 1) (X i).A) (tk : ∀ i, Takes (X i) W) (hb : ∀ i, Binds (X i).K fd ps []) (hg : ∀ i, Gl (X i) x) (hm : ∀ i, (X i).mg x = some (.ref C)) (ha : DA X W (e :: es) t)
    (hdb : (x == ("__debug__" : Str)) = false := by decide) (he : ∀ i, starEach (e :: es) (X i).env = (false, eval e (X i).env) :: starEach es (X i).env := by intro _; rfl) (hpl : ∀ i, (backTo pos (starEach es (X i).env)).any (·.1) = false := by intro _; rfl) :
    DE X W (.Call (.Name x p) (e :: es) [] pos) (fun ρ => do let ds ← t ρ; Wm.need (ds.length = m); w ds) := by
  obtain ⟨ta, pa, ra⟩ := ha
  refine ⟨_, fun i => pe_mkG (M i) (F i) (hgd i) (hr i) (tk i) (hg i) (hm i) (hb i) (pa i) hdb (he i) (hpl i), fun F H n σ ρ K Kx Q hs ht hq hx => ?_⟩
  refine ra F H n σ ρ _ Kx _ hs ht (fun vs ds F1 H1 n1 g1 hv hk => ?_) hx
  intro y dx h1 h2 ne
  exact mk_sp g1.pb hv hk.1 hk.2 (fun v d F' H' n' g => hq v d F' H' n' (g1.trans g)) (fun cls od xd F' H' n' g => hx cls od xd F' H' n' (g1.trans g)) y dx h1 h2 ne
theorem DE.mkK {r : Bool} (M : ∀ i, Mk (X i).K C f) (F : ∀ i, FnG (X i).prog (X i).w (X i).K (X i).mg (X i).base k f fd ps (spI fs.length C w)) (hgd : ∀ i, (X i).A.guards = some []) (hr : ∀ i, Room (k + 1) (X i).A) (tk : ∀ i, Takes (X i) W) (hb : ∀ i, KwC r (X i).K fd ps fs) (hps : ps.length = fs.length + 1) (hg : ∀ i, Gl (X i) x) (hm : ∀ i, (X i).mg x = some (.ref C)) (ha : DK X W kws t)
    (hall : ∀ i, (backToKw pos (keywordEach kws (X i).env)).all (·.1.isSome) = true := by intro _; rfl) (hks : ∀ i, (backToKw pos (keywordEach kws (X i).env)).filterMap (·.1) = (if r then fs.reverse else fs) := by intro _; rfl) (hdb : (x == ("__debug__" : Str)) = false := by decide)
    (hpl : ∀ i, ((backTo pos (starEach [] (X i).env)).any (·.1) || (backToKw pos (keywordEach kws (X i).env)).any (·.1.isNone)) = false := by intro _; rfl) :
    DE X W (.Call (.Name x p) [] kws pos) (fun ρ => do let ds ← t ρ; Wm.need (ds.length = fs.length); w (if r then ds.reverse else ds)) := by
  obtain ⟨ta, pa, ra⟩ := ha
  refine ⟨_, fun i => pe_mkK (M i) (F i) (hgd i) (hr i) (tk i) (hg i) (hm i) (hb i) hps (pa i) (hall i) (hks i) hdb (hpl i), fun F H n σ ρ K Kx Q hs ht hq hx => ?_⟩
  refine ra F H n σ ρ _ Kx _ hs ht (fun vs ds F1 H1 n1 g1 hv hk => ?_) hx
  intro y dx h1 h2 ne
  have hv2 : HasL F1 H1 (if r then vs.reverse else vs) (if r then ds.reverse else ds) := by
    cases r
    · exact hv
    · exact hv.rev
  exact mk_sp g1.pb hv2 (by cases r <;> simp [hk.1]) hk.2 (fun v d F' H' n' g => hq v d F' H' n' (g1.trans g)) (fun cls od xd F' H' n' g => hx cls od xd F' H' n' (g1.trans g)) y dx h1 h2 ne
end
end DL


set_option maxRecDepth 100000
set_option maxHeartbeats 2000000
/-! DL25: C() without an __init__; == of the same data; own == and !=. Own work over HandS. -/
namespace DL
open PySem PySem.Spec PyProof.Rows L2
/-! ### == of the same data -/
/-- written data of nesting below k -/
def nst : Nat → D → Bool
  | 0, _ => false
  | k + 1, d => match d with
    | .non | .bl _ | .int _ | .str _ => true
    | .tup ds | .lst ds => ds.all (nst k)
    | .dic ks ds => decide (ks.length ≤ 1) && ds.all (nst k)
    | _ => false
section
variable {X : Cx} {pins : List (Addr × Obj)} {σ : L2.St} {H : Hp} {s : Shared}
theorem same_items {P : Program} {w : World} {A : Around} {F : Addr → Prop} {k : Nat} (ih : ∀ (x y : V) (v u : Value) (d : D), nst k d = true → Has F H x d → Has F H y d → RelV x v → RelV y u → SeqAt.EqP P w A s v u true) :
    ∀ {ds : List D} {xs ys : List V} {us ws : List Value}, ds.all (nst k) = true → HasL F H xs ds → HasL F H ys ds → Vals xs us → Vals ys ws → ∀ j (h1 : j < us.length) (h2 : j < ws.length), SeqAt.EqP P w A s us[j] ws[j] true
  | [], _, _, _, _, _, l1, l2, r1, r2, j, h1, h2 => by
    cases l1; cases l2; cases r1
    exact absurd h1 (Nat.not_lt_zero j)
  | d :: ds, _, _, _, _, hn, l1, l2, r1, r2, j, h1, h2 => by
    rw [List.all_cons, Bool.and_eq_true] at hn
    cases l1 with
    | cons a1 b1 =>
    cases l2 with
    | cons a2 b2 =>
    cases r1 with
    | cons e1 f1 =>
    cases r2 with
    | cons e2 f2 =>
    cases j with
    | zero => exact ih _ _ _ _ d hn.1 a1 a2 e1 e2
    | succ j => exact same_items ih hn.2 b1 b2 f1 f2 j (Nat.lt_of_succ_lt_succ h1) (Nat.lt_of_succ_lt_succ h2)
/-- what == of two references gives, by the items -/
theorem same_ref (I : Inv X pins σ H s) {A : Around} {F : Addr → Prop} {k : Nat} (hu : A.units < cLine) (ih : ∀ (x y : V) (v u : Value) (d : D), nst k d = true → Has F H x d → Has F H y d → RelV x v → RelV y u → SeqAt.EqP X.prog X.w A.in1 s v u true)
    {a b : Addr} {d : D} (hd : nst (k + 1) d = true) (hx : Has F H (.ref a) d) (hy : Has F H (.ref b) d) (E Q : Value → Shared → Prop) (q : Q (.bool true) s) : wpAny (model X.prog X.w) A (richCompare .Eq (.ref a) (.ref b)) Q E s := by
  cases d with
  | tup ds =>
    cases hx with
    | tup f1 h1 l1 =>
    cases hy with
    | tup f2 h2 l2 =>
    obtain ⟨_, us, r1, p1⟩ := (show ObjOk X.prog X.w H s.heap a (.tup _) from I.hok a _ h1)
    obtain ⟨_, ws, r2, p2⟩ := (show ObjOk X.prog X.w H s.heap b (.tup _) from I.hok b _ h2)
    have hsz : us.toArray.size = ws.toArray.size := by
      rw [List.size_toArray, List.size_toArray, ← r1.length, ← r2.length, l1.len, l2.len]
    have hd : ds.all (nst k) = true := hd
    refine GQ.rc_tupG hsz hu (fun _ s' => s' = s) p1 p2 (fun i h1 h2 s' es => ?_) (fun s' es => by rw [es]; exact q) rfl
    subst es
    have z := same_items ih hd l1 l2 r1 r2 i (by simpa using h1) (by simpa using h2) E (fun r s2 => r = true ∧ s2 = s') ⟨rfl, rfl⟩
    simpa using z
  | lst ds =>
    cases hx with
    | lst f1 h1 l1 =>
    cases hy with
    | lst f2 h2 l2 =>
    obtain ⟨_, us, m1, r1, p1⟩ := (show ObjOk X.prog X.w H s.heap a (.lst _) from I.hok a _ h1)
    obtain ⟨_, ws, m2, r2, p2⟩ := (show ObjOk X.prog X.w H s.heap b (.lst _) from I.hok b _ h2)
    have hsz : us.toArray.size = ws.toArray.size := by
      rw [List.size_toArray, List.size_toArray, ← r1.length, ← r2.length, l1.len, l2.len]
    have hd : ds.all (nst k) = true := hd
    refine SeqAt.rcP_lists (e := fun _ => true) ⟨_, p1, rfl, _, rfl⟩ ⟨_, p2, rfl, _, rfl⟩ hsz hu (fun j h1 h2 => ?_) E Q ?_
    · have z := same_items ih hd l1 l2 r1 r2 j (by simpa using h1) (by simpa using h2)
      simpa using z
    · rw [show ((List.range us.toArray.size).all fun _ => true) = true from List.all_eq_true.mpr fun _ _ => rfl]
      exact q
  | dic ks ds =>
    cases hx with
    | @dic _ k1 _ _ f1 h1 i1 e1 l1 =>
    cases hy with
    | @dic _ k2 _ _ f2 h2 i2 e2 l2 =>
    obtain ⟨_, ya, va, ra, da⟩ := (show ObjOk X.prog X.w H s.heap a (.dK k1) from I.hok a _ h1)
    obtain ⟨_, yb, vb, rb, db⟩ := (show ObjOk X.prog X.w H s.heap b (.dK k2) from I.hok b _ h2)
    have hd : (decide (ks.length ≤ 1) && ds.all (nst k)) = true := hd
    rw [Bool.and_eq_true, decide_eq_true_eq] at hd
    have len : k1.length = k2.length := by
      have z := congrArg List.length (e1.trans e2.symm)
      simpa using z
    refine PySem.W.rcP_dicts (knd := mixKind X.prog X.w) (r := true) ya yb da db hu (fun _ => ?_) E Q ?_
    · match k1, k2, h1, h2, e1, e2, l1, l2, ra, rb, len with
      | [], [], _, _, _, _, _, _, ra, rb, _ =>
        cases ra
        exact .nil
      | [(x, v)], [(y, u)], _, _, e1, e2, l1, l2, ra, rb, _ =>
        have exy : x = y := by
          have z := e1.trans e2.symm
          simpa using z
        subst exy
        cases ds with
        | nil => cases l1
        | cons d ds =>
        cases l1 with
        | cons a1 b1 =>
        cases l2 with
        | cons a2 b2 =>
        have hn : nst k d = true := by
          have z := hd.2
          rw [List.all_cons, Bool.and_eq_true] at z
          exact z.1
        refine hits_run (F := fun x y => ∃ d, nst k d = true ∧ Has F H x d ∧ Has F H y d) (fun x y v u h r1 r2 => ?_) rb ra fun p hp => ?_
        · obtain ⟨d, g1, g2, g3⟩ := h
          exact ih x y v u d g1 g2 g3 r1 r2
        · cases List.mem_singleton.mp hp
          exact ⟨u, by simp [valV], d, hn, a1, a2⟩
      | _ :: _ :: _, _, _, _, e1, _, _, _, _, _, _ =>
        have z := congrArg List.length e1
        simp at z
        omega
    · have e : va.length = vb.length := by rw [← ra.length, ← rb.length]; exact len
      rw [show (va.length == vb.length && true) = true from by rw [e]; simp]
      exact q
  | non => cases hx
  | bl _ => cases hx
  | int _ => cases hx
  | str _ => cases hx
  | _ => cases hd
theorem same_run (I : Inv X pins σ H s) {F : Addr → Prop} : ∀ (k : Nat) (A : Around), A.units + k < cLine → ∀ (x y : V) (v u : Value) (d : D), nst k d = true → Has F H x d → Has F H y d → RelV x v → RelV y u → SeqAt.EqP X.prog X.w A s v u true
  | 0, _, _, _, _, _, _, _, h, _, _, _, _ => by cases h
  | k + 1, A, hu, x, y, v, u, d, hd, hx, hy, rx, ry => by
    have ih := same_run I (F := F) k A.in1 (by show A.units + 1 + k < cLine; omega)
    have key : ∀ a b, x = .ref a → y = .ref b → SeqAt.EqP X.prog X.w A s v u true := fun a b ea eb => by
      subst ea eb
      cases (show v = Value.ref a from rx)
      cases (show u = Value.ref b from ry)
      by_cases e : a = b
      · subst e
        exact (SeqAt.EqAt.same _).eqP
      · exact SeqAt.eqP_refs e fun E Q q => same_ref I (by omega) ih hd hx hy E Q q
    cases hx with
    | non => cases hy; exact (eqAt_same rx ry rfl).eqP
    | bl b => cases hy; exact (eqAt_same rx ry rfl).eqP
    | int i => cases hy; exact (eqAt_same rx ry rfl).eqP
    | str z => cases hy; exact (eqAt_same rx ry rfl).eqP
    | tup f h l => cases hy with | tup f2 h2 l2 => exact key _ _ rfl rfl
    | lst f h l => cases hy with | lst f2 h2 l2 => exact key _ _ rfl rfl
    | dic f h i e l => cases hy with | dic f2 h2 i2 e2 l2 => exact key _ _ rfl rfl
    | _ => cases hd
end
section
variable {X : Cx}
/-- x == y, both of the same data -/
def rSame : R2 := fun x y H Q => ∃ (a b : Addr) (F : Addr → Prop) (d : D), x = .ref a ∧ y = .ref b ∧ nst 8 d = true ∧ Has F H x d ∧ Has F H y d ∧ Q (.bl true) H
theorem op_same (hu : X.A.units + 64 < cLine) : OpR X (compareOp .Eq) rSame := by
  intro pins s σ H x y v u Q I rx ry h
  obtain ⟨a, b, F, d, rfl, rfl, hd, hx, hy, q⟩ := h
  cases (show v = Value.ref a from rx)
  cases (show u = Value.ref b from ry)
  exact same_ref I (A := X.A) (k := 7) (by omega) (same_run I 7 X.A.in1 (by show X.A.units + 1 + 7 < cLine; omega)) hd hx hy _ _ ⟨.bl true, H, I, rfl, q⟩
/-! ### own == and != -/
structure EqG (P : Program) (w : World) (K : PySem.W.Frag) (mg : Str → Option Value) (base : Heap) (C : Addr) (nm : Str) (k : Nat) (wf : List D → Wm D) : Prop where
  ex : ∃ f fd ps, FnG P w K mg base k f fd ps (spD 2 wf) ∧ PySem.W.findIn K (.ref C) nm = some (some (.ref f)) ∧ PySem.W.isFn K (.ref f) = true ∧ Binds K fd ps [] ∧ ps.length = 2
def rOwn (K : PySem.W.Frag) (T : Addr → (List D → Wm D) → Prop) : R2 := fun x y H Q => ∃ (a b C C' dx dy : Addr) (fs gs : List (Str × V)) (wf : List D → Wm D), x = .ref a ∧ y = .ref b ∧ H a = some (.ins C dx fs) ∧ H b = some (.ins C' dy gs) ∧
  PySem.W.notFirst K C (.ref C') = true ∧ T C wf ∧ spD 2 wf [x, y] H (fun v H' => (∃ b, v = .bl b) ∧ Q v H') (fun _ _ _ => False)
theorem op_own {op : CmpOp} {nm : Str} {k : Nat} {T : Addr → (List D → Wm D) → Prop} (hnm : (PySem.cmpInfo op).2.1 = nm) (hop : ∀ v u, compareOp op v u = richCompare op v u) (hT : ∀ C wf, T C wf → EqG X.prog X.w X.K X.mg X.base C nm k wf) (hgd : X.A.guards = some []) (hr : Room k X.A) : OpR X (compareOp op) (rOwn X.K T) := by
  intro pins s σ H x y v u Q I rx ry h
  obtain ⟨a, b, C, C', dx, dy, fs, gs, wf, rfl, rfl, ha, hb, hn, ht, hsp⟩ := h
  cases (show v = Value.ref a from rx)
  cases (show u = Value.ref b from ry)
  obtain ⟨f, fd, ps, F, hs, hf, bi, hl⟩ := (hT C wf ht).ex
  obtain ⟨mA, J, _⟩ := ins_get I.hok ha
  obtain ⟨mB, J', _⟩ := ins_get I.hok hb
  obtain ⟨od, J, _⟩ := J.look
  obtain ⟨od', J', _⟩ := J'.look
  obtain ⟨m, hF⟩ := I.fr
  rw [hop]
  refine PySem.W.cmp_K (op := op) (tb := .ref C') hr.units0 hF I.ok.mod.kin J J'.type hn (by rw [hnm]; exact hs) hf ?_
  refine wpAny_mono (run_G (us := [.ref a, .ref b]) (vs := [.ref a, .ref b]) F hgd hr bi (fun pins H s e s' I c => passL pins σ H s e s' I c) I (.cons rfl (.cons rfl .nil)) hsp) (fun r s' q => ?_) fun _ _ z => z
  obtain ⟨v, H', I', rv, ⟨bb, rfl⟩, q⟩ := q
  cases (show r = Value.bool bb from rv)
  exact ⟨.bl bb, H', I', rfl, q⟩
def fOwn (K : PySem.W.Frag) (T : Addr → (List D → Wm D) → Prop) : D → D → Wm D
  | .obj C ns ds, .obj C' ns' ds' => fun Kd _ n => ∃ wf, T C wf ∧ PySem.W.notFirst K C (.ref C') = true ∧ wf [.obj C ns ds, .obj C' ns' ds'] (fun d n' => (∃ b, d = .bl b) ∧ Kd d n') XFalse n
  | _, _ => Wm.fail
theorem sem_own {K : PySem.W.Frag} {T : Addr → (List D → Wm D) → Prop} : Sem2 (rOwn K T) (fOwn K T) := by
  intro F H n x y a b Kd Q pb hx hy ht hq
  cases hx with
  | obj f1 h1 z1 l1 =>
    cases hy with
    | obj f2 h2 z2 l2 =>
      obtain ⟨wf, t, nf, hk⟩ := ht
      refine ⟨_, _, _, _, _, _, _, _, wf, rfl, rfl, h1, h2, nf, t, rfl, F, n, _, _, _, pb, .cons (.obj f1 h1 z1 l1) (.cons (.obj f2 h2 z2 l2) .nil), hk, fun v d F' H' n' g hv hk => ?_, fun _ _ _ _ _ _ _ _ z => z⟩
      obtain ⟨⟨b, rfl⟩, hk⟩ := hk
      cases hv
      exact ⟨⟨b, rfl⟩, hq _ _ F' H' n' g (.bl b) hk⟩
    | _ => exact ht.elim
  | _ => exact ht.elim
/-- == of data: by value, the same, by an own __eq__ -/
def rEqU (K : PySem.W.Frag) (T : Addr → (List D → Wm D) → Prop) : R2 := fun x y H Q => rEqA K x y H Q ∨ (rSame x y H Q ∨ rOwn K T x y H Q)
def rNeU (K : PySem.W.Frag) (T : Addr → (List D → Wm D) → Prop) : R2 := fun x y H Q => rNeA K x y H Q ∨ rOwn K T x y H Q
def fEqU (K : PySem.W.Frag) (T : Addr → (List D → Wm D) → Prop) (d e : D) : Wm D := fun Kd Kx n => fEqA d e Kd Kx n ∨ (d = e ∧ nst 8 d = true ∧ Kd (.bl true) n) ∨ fOwn K T d e Kd Kx n
def fNeU (K : PySem.W.Frag) (T : Addr → (List D → Wm D) → Prop) (d e : D) : Wm D := fun Kd Kx n => fNeA d e Kd Kx n ∨ fOwn K T d e Kd Kx n
theorem op_eqU {k : Nat} {T : Addr → (List D → Wm D) → Prop} (hT : ∀ C wf, T C wf → EqG X.prog X.w X.K X.mg X.base C "__eq__" k wf) (hgd : X.A.guards = some []) (hr : Room k X.A) : OpR X (compareOp .Eq) (rEqU X.K T) := (op_eqA hr.units).or ((op_same hr.units).or (op_own rfl (fun _ _ => rfl) hT hgd hr))
theorem op_neU {k : Nat} {T : Addr → (List D → Wm D) → Prop} (hT : ∀ C wf, T C wf → EqG X.prog X.w X.K X.mg X.base C "__ne__" k wf) (hgd : X.A.guards = some []) (hr : Room k X.A) : OpR X (compareOp .NotEq) (rNeU X.K T) := (op_neA hr.units).or (op_own rfl (fun _ _ => rfl) hT hgd hr)
theorem sem_eqU {K : PySem.W.Frag} {T : Addr → (List D → Wm D) → Prop} : Sem2 (rEqU K T) (fEqU K T) := by
  intro F H n x y a b Kd Q pb hx hy ht hq
  rcases ht with ht | ⟨rfl, hd, hk⟩ | ht
  · exact .inl (sem_eqA F H n x y a b Kd Q pb hx hy ht hq)
  · have fin := hq (.bl true) (.bl true) F H n (.refl pb) (.bl true) hk
    cases hx with
    | tup f h l => cases hy with | tup f2 h2 l2 => exact .inr (.inl ⟨_, _, F, _, rfl, rfl, hd, .tup f h l, .tup f2 h2 l2, fin⟩)
    | lst f h l => cases hy with | lst f2 h2 l2 => exact .inr (.inl ⟨_, _, F, _, rfl, rfl, hd, .lst f h l, .lst f2 h2 l2, fin⟩)
    | dic f h i e l => cases hy with | dic f2 h2 i2 e2 l2 => exact .inr (.inl ⟨_, _, F, _, rfl, rfl, hd, .dic f h i e l, .dic f2 h2 i2 e2 l2, fin⟩)
    | non => exact .inl (sem_eqA F H n _ _ .non .non Kd Q pb .non hy (by unfold fEqA; exact hk) hq)
    | bl b => exact .inl (sem_eqA F H n _ _ (.bl b) (.bl b) Kd Q pb (.bl b) hy (by unfold fEqA; rw [show sclE (.bl b) (.bl b) = some true from by simp [sclE]]; exact hk) hq)
    | int i => exact .inl (sem_eqA F H n _ _ (.int i) (.int i) Kd Q pb (.int i) hy (by unfold fEqA; rw [show sclE (.int i) (.int i) = some true from by simp [sclE]]; exact hk) hq)
    | str z => exact .inl (sem_eqA F H n _ _ (.str z) (.str z) Kd Q pb (.str z) hy (by unfold fEqA; rw [show sclE (.str z) (.str z) = some true from by simp [sclE]]; exact hk) hq)
    | _ => cases hd
  · exact .inr (.inr (sem_own F H n x y a b Kd Q pb hx hy ht hq))
theorem sem_neU {K : PySem.W.Frag} {T : Addr → (List D → Wm D) → Prop} : Sem2 (rNeU K T) (fNeU K T) := by
  intro F H n x y a b Kd Q pb hx hy ht hq
  rcases ht with ht | ht
  · exact .inl (sem_neA F H n x y a b Kd Q pb hx hy ht hq)
  · exact .inr (sem_own F H n x y a b Kd Q pb hx hy ht hq)
end
/-! ### C() without an __init__ -/
section
variable {X : Cx} {C : Addr} {x : Str} {p pos : Pos}
def tMk0 (C : Addr) : TE := fun _ H Q => ∀ x dx, H x = none → H dx = none → dx ≠ x → Q (.ref x) (upd (upd H dx (.own x)) x (.ins C dx []))
theorem pe_mk0 (M : Mk0 X.K C) (hg : Gl X x) (hm : X.mg x = some (.ref C)) (hdb : (x == ("__debug__" : Str)) = false := by decide) : PE X (.Call (.Name x p) [] [] pos) (tMk0 C) := by
  refine ⟨fun pins s σ H Q I h => ?_⟩
  refine wpAny_Call_Name_kw (ld_glob I hg hm ?_ hdb)
  refine PySem.W.callWith_K0 I.kIn M.kp (wpAny_call ?_)
  have I2 := Inv.made (C := C) I
  have hq := h (s.heap.objs.size + 1) s.heap.objs.size (I.hok.fresh (Nat.le_succ _)) (I.hok.fresh (Nat.le_refl _)) (Nat.ne_of_lt (Nat.lt_succ_self _))
  refine make_map0 I.kIn M.makes M.init (fun self => PySem.W.Looks.of_pure (PySem.W.oi_bind self)) ?_
  obtain ⟨mA, J, _⟩ := ins_get I2.hok (a := s.heap.objs.size + 1) (C := C) (dx := s.heap.objs.size) (fs := []) upd_same
  obtain ⟨od, J, _⟩ := J.look
  have t2 : PySem.W.Looks (model X.prog X.w) _ (isInstance (.ref (s.heap.objs.size + 1)) (.type "object")) true := J.type.andThen (PySem.W.looks_mroIn I2.kIn M.top)
  refine codeAny_call_builtin PySem.W.oi_plain PySem.W.entry_oi (@PySem.W.check_slot (model X.prog X.w) _ _ _ "object.__init__" "object" "__init__" (.ref (s.heap.objs.size + 1)) [] [] _ PySem.W.oi_kind PySem.W.oi_split t2 (PySem.W.oi_args (.ref (s.heap.objs.size + 1))) ?_)
  rw [PySem.W.oi_run]
  exact wpAny_pure (And.intro rfl (show EP X pins σ Q (.ref (s.heap.objs.size + 1)) _ from ⟨.ref (s.heap.objs.size + 1), _, I2, rfl, hq⟩))
theorem DE.mk0 {ι : Type} {X : ι → Cx} {W : WX} (M : ∀ i, Mk0 (X i).K C) (hg : ∀ i, Gl (X i) x) (hm : ∀ i, (X i).mg x = some (.ref C)) (hdb : (x == ("__debug__" : Str)) = false := by decide) : DE X W (.Call (.Name x p) [] [] pos) (fun _ => pure (.obj C [] [])) := by
  refine ⟨_, fun i => pe_mk0 (M i) (hg i) (hm i) hdb, fun F H n σ ρ K Kx Q hs ht hq hx => ?_⟩
  intro y dx h1 h2 ne
  have g1 := laid_not (o := .own y) hs.pb h2 .own
  have hy : upd H dx (.own y) y = none := by rw [upd_ne (Ne.symm ne)]; exact h1
  have g2 := Grow.laid (o := .ins C dx []) g1.pb hy .ins
  exact hq _ (.obj C [] []) _ _ n (g1.trans g2) (.obj plusF_same upd_same rfl .nil) ht
end
end DL


set_option maxRecDepth 100000
set_option maxHeartbeats 2000000
/-! DL26: a list that others may have seen gets an item; nothing is asked of those behind it. Own work over HandS. -/
namespace DL
open PySem PySem.Spec PyProof.Rows L2
mutual
/-- plain data, objects -/
def good : D → Bool
  | .non | .bl _ | .int _ | .str _ => true
  | .tup ds | .lst ds => goodL ds
  | .dic _ ds => goodL ds
  | .obj _ _ ds => goodL ds
  | _ => false
def goodL : List D → Bool
  | [] => true
  | d :: ds => good d && goodL ds
end
mutual
/-- x is not within d -/
def Apart (x : D) : D → Prop
  | .non | .bl _ | .int _ | .str _ => True
  | .tup ds => ApartL x ds
  | .lst ds => .lst ds ≠ x ∧ ApartL x ds
  | .dic _ ds => ApartL x ds
  | .obj _ _ ds => ApartL x ds
  | _ => False
def ApartL (x : D) : List D → Prop
  | [] => True
  | d :: ds => Apart x d ∧ ApartL x ds
end
mutual
theorem Apart.good {x : D} : ∀ {d : D}, Apart x d → good d = true
  | .non, _ => by unfold DL.good; rfl
  | .bl _, _ => by unfold DL.good; rfl
  | .int _, _ => by unfold DL.good; rfl
  | .str _, _ => by unfold DL.good; rfl
  | .tup ds, h => by unfold Apart at h; unfold DL.good; exact ApartL.good h
  | .lst ds, h => by unfold Apart at h; unfold DL.good; exact ApartL.good h.2
  | .dic _ ds, h => by unfold Apart at h; unfold DL.good; exact ApartL.good h
  | .obj _ _ ds, h => by unfold Apart at h; unfold DL.good; exact ApartL.good h
  | .exc _ _ _, h => by unfold Apart at h; exact h.elim
  | .pen, h => by unfold Apart at h; exact h.elim
  | .clo _ _ _, h => by unfold Apart at h; exact h.elim
  | .fnA _, h => by unfold Apart at h; exact h.elim
  | .scr _ _ _, h => by unfold Apart at h; exact h.elim
theorem ApartL.good {x : D} : ∀ {ds : List D}, ApartL x ds → goodL ds = true
  | [], _ => by unfold goodL; rfl
  | d :: ds, h => by
    unfold ApartL at h
    unfold goodL
    rw [Apart.good h.1, ApartL.good h.2]
    rfl
end
mutual
/-- data is what lies there -/
theorem Has.det {F F' : Addr → Prop} {H : Hp} : ∀ {v : V} {d e : D}, Has F H v d → Has F' H v e → good d = true → good e = true → d = e
  | _, .non, e, h, k, _, ge => by cases h; cases k <;> first | rfl | (unfold good at ge; cases ge)
  | _, .bl b, e, h, k, _, ge => by cases h; cases k <;> first | rfl | (unfold good at ge; cases ge)
  | _, .int i, e, h, k, _, ge => by cases h; cases k <;> first | rfl | (unfold good at ge; cases ge)
  | _, .str x, e, h, k, _, ge => by cases h; cases k <;> first | rfl | (unfold good at ge; cases ge)
  | _, .tup ds, e, h, k, gd, ge => by
    cases h with
    | tup f h1 l1 =>
    unfold good at gd
    cases k with
    | tup f2 h2 l2 => rw [h1] at h2; cases h2; unfold good at ge; rw [HasL.det l1 l2 gd ge]
    | lst f2 h2 l2 => rw [h1] at h2; cases h2
    | dic f2 h2 _ _ l2 => rw [h1] at h2; cases h2
    | obj f2 h2 _ l2 => rw [h1] at h2; cases h2
    | _ => unfold good at ge; cases ge
  | _, .lst ds, e, h, k, gd, ge => by
    cases h with
    | lst f h1 l1 =>
    unfold good at gd
    cases k with
    | tup f2 h2 l2 => rw [h1] at h2; cases h2
    | lst f2 h2 l2 => rw [h1] at h2; cases h2; unfold good at ge; rw [HasL.det l1 l2 gd ge]
    | dic f2 h2 _ _ l2 => rw [h1] at h2; cases h2
    | obj f2 h2 _ l2 => rw [h1] at h2; cases h2
    | _ => unfold good at ge; cases ge
  | _, .dic ks ds, e, h, k, gd, ge => by
    cases h with
    | dic f h1 i1 z1 l1 =>
    unfold good at gd
    cases k with
    | tup f2 h2 l2 => rw [h1] at h2; cases h2
    | lst f2 h2 l2 => rw [h1] at h2; cases h2
    | dic f2 h2 i2 z2 l2 => rw [h1] at h2; cases h2; unfold good at ge; rw [HasL.det l1 l2 gd ge, ← z1, ← z2]
    | obj f2 h2 _ l2 => rw [h1] at h2; cases h2
    | _ => unfold good at ge; cases ge
  | _, .obj C ns ds, e, h, k, gd, ge => by
    cases h with
    | obj f h1 z1 l1 =>
    unfold good at gd
    cases k with
    | tup f2 h2 l2 => rw [h1] at h2; cases h2
    | lst f2 h2 l2 => rw [h1] at h2; cases h2
    | dic f2 h2 i2 z2 l2 => rw [h1] at h2; cases h2
    | obj f2 h2 z2 l2 => rw [h1] at h2; cases h2; unfold good at ge; rw [HasL.det l1 l2 gd ge, ← z1, ← z2]
    | _ => unfold good at ge; cases ge
  | _, .exc _ _ _, _, _, _, gd, _ => by unfold good at gd; cases gd
  | _, .pen, _, _, _, gd, _ => by unfold good at gd; cases gd
  | _, .clo _ _ _, _, _, _, gd, _ => by unfold good at gd; cases gd
  | _, .fnA _, _, _, _, gd, _ => by unfold good at gd; cases gd
  | _, .scr _ _ _, _, _, _, gd, _ => by unfold good at gd; cases gd
theorem HasL.det {F F' : Addr → Prop} {H : Hp} : ∀ {vs : List V} {ds es : List D}, HasL F H vs ds → HasL F' H vs es → goodL ds = true → goodL es = true → ds = es
  | _, [], _, .nil, .nil, _, _ => rfl
  | _, d :: ds, _, .cons h1 l1, .cons h2 l2, gd, ge => by
    unfold goodL at gd ge
    rw [Bool.and_eq_true] at gd ge
    rw [Has.det h1 h2 gd.1 ge.1, HasL.det l1 l2 gd.2 ge.2]
end
def lessF (F : Addr → Prop) (p : Addr) : Addr → Prop := fun a => F a ∧ a ≠ p
section
variable {F : Addr → Prop} {H : Hp} {p : Addr} {es : List D} (hp : Has F H (.ref p) (.lst es)) (ge : good (.lst es) = true)
include hp ge
mutual
/-- what holds no list like it does not lean on it -/
theorem Has.less : ∀ {v : V} {d : D}, Has F H v d → Apart (.lst es) d → Has (lessF F p) H v d
  | _, .non, h, _ => by cases h; exact .non
  | _, .bl b, h, _ => by cases h; exact .bl b
  | _, .int i, h, _ => by cases h; exact .int i
  | _, .str x, h, _ => by cases h; exact .str x
  | _, .tup ds, h, a => by
    unfold Apart at a
    cases h with
    | tup f h1 l1 =>
      refine .tup ⟨f, fun e => ?_⟩ h1 (HasL.less l1 a)
      subst e
      cases hp with | lst f2 h2 l2 => rw [h1] at h2; cases h2
  | _, .lst ds, h, a => by
    have a0 := a
    unfold Apart at a
    cases h with
    | lst f h1 l1 =>
      refine .lst ⟨f, fun e => ?_⟩ h1 (HasL.less l1 a.2)
      subst e
      exact a.1 (Has.det (.lst f h1 l1) hp (Apart.good a0) ge)
  | _, .dic ks ds, h, a => by
    unfold Apart at a
    cases h with
    | dic f h1 i1 z1 l1 =>
      refine .dic ⟨f, fun e => ?_⟩ h1 i1 z1 (HasL.less l1 a)
      subst e
      cases hp with | lst f2 h2 l2 => rw [h1] at h2; cases h2
  | _, .obj C ns ds, h, a => by
    unfold Apart at a
    cases h with
    | obj f h1 z1 l1 =>
      refine .obj ⟨f, fun e => ?_⟩ h1 z1 (HasL.less l1 a)
      subst e
      cases hp with | lst f2 h2 l2 => rw [h1] at h2; cases h2
  | _, .exc _ _ _, _, a => by unfold Apart at a; exact a.elim
  | _, .pen, _, a => by unfold Apart at a; exact a.elim
  | _, .clo _ _ _, _, a => by unfold Apart at a; exact a.elim
  | _, .fnA _, _, a => by unfold Apart at a; exact a.elim
  | _, .scr _ _ _, _, a => by unfold Apart at a; exact a.elim
theorem HasL.less : ∀ {vs : List V} {ds : List D}, HasL F H vs ds → ApartL (.lst es) ds → HasL (lessF F p) H vs ds
  | _, [], .nil, _ => .nil
  | _, d :: ds, .cons h l, a => by
    unfold ApartL at a
    exact .cons (Has.less h a.1) (HasL.less l a.2)
end
end
/-- the slots that are kept: what does not hold x -/
def KeepR (ρ' ρ : Env') (x : D) : Prop := ρ'.length = ρ.length ∧ ∀ (j : Nat) (y : SV), ρ'[j]? = some (some y) → ∃ d, y = .d d ∧ ρ[j]? = some (some (.d d)) ∧ Apart x d
def dAppF (k : Nat) (t : TD D) : TDS := fun E ρ n => match ρ[k]? with
  | some (some (.d (.lst es))) => onE t (fun d ρ n => es.length < sizeLine ∧ good (.lst es) = true ∧ E.nl ∧ ∃ ρ', KeepR ρ' ρ (.lst es) ∧ E.nx ρ' n) E ρ n
  | _ => False
theorem DS.appF {ι : Type} {X : ι → Cx} {W : WX} {k : Nat} {o e : Expr} {t : TD D} {p1 p2 pos : Pos} {K : PySem.W.Frag} (hK : ∀ i, (X i).K = K) (ho : ∀ i, PE (X i) o (tVar k)) (h : DE X W e t)
    (hp : ∀ i ta, PA (X i) [e] ta → PE (X i) (.Call (.Attribute o "append" p1) [e] [] p2) (tBM (X i).K "list" rAppend (tVar k) ta))
    (hst : ∀ i, starEach [e] (X i).env = (false, eval e (X i).env) :: starEach [] (X i).env := by intro _; rfl) (hs : ∀ i, swapsWith (.Call (.Attribute o "append" p1) [e] [] p2) none pos.line (X i).env = pure false := by intro _; rfl) :
    DS X W (.Expr (.Call (.Attribute o "append" p1) [e] [] p2) pos) (dAppF k t) := by
  obtain ⟨te, p, r⟩ := h
  refine ⟨tDrop (tBM K "list" rAppend (tVar k) (tCons te tNil)), fun i => by rw [← hK i]; exact ps_expr (hp i _ (pa_cons (p i) pa_nil (hst i))) (hs i), fun B F H n σ ρ E Z s h eo => ?_⟩
  unfold dAppF at h
  match e : ρ[k]? with
  | some none => rw [e] at h; exact h.elim
  | none => rw [e] at h; exact h.elim
  | some (some (.m x)) => rw [e] at h; exact h.elim
  | some (some (.d x)) =>
    rw [e] at h
    cases x with
    | lst es =>
      obtain ⟨v, e1, hv⟩ := s.hs.at_ k _ e
      cases hv with
      | @lst a vs _ f ha hl =>
      refine ⟨.ref a, e1, .inl ⟨rfl, _, .of ha⟩, ?_⟩
      refine r.on s h eo fun w d F' H' n' s' g hw hk eo' => ?_
      obtain ⟨hz, hgd, hnl, ρ', ⟨kl, kr⟩, hk⟩ := hk
      obtain ⟨v', e1', hv'⟩ := s'.hs.at_ k _ e
      rw [e1] at e1'
      cases e1'
      have hp0 : Has F' H' (.ref a) (.lst es) := hv'
      cases hv' with
      | @lst _ vs' _ f' ha' hl' =>
      refine ⟨a, _, w, rfl, rfl, ha', by rw [hl'.len]; exact hz, ?_⟩
      obtain ⟨nl1, nl2⟩ := eo'.nl hnl
      -- the list is new
      have hB : B.H a = none := by
        cases q : B.H a with
        | none => rfl
        | some o =>
          have sf := s'.grow.keep a o q
          rw [ha'] at sf
          rcases sf with sf | ⟨_, _, _, _, sf, _⟩ | ⟨_, _, _, sf⟩
          · cases sf
            exact absurd q (nl1 a _)
          · cases sf
          · cases sf
      have nB : ¬ B.F a := fun z => by
        obtain ⟨o, q⟩ := nl2 a z
        rw [hB] at q
        cases q
      have nf : ¬ lessF F' a a := fun z => z.2 rfl
      have pb1 : PenB (lessF F' a) H' n' := ⟨s'.hs.pb.ct, fun b f => s'.hs.pb.dom b f.1, fun P ps e => by
        have t := s'.hs.pb.tb P ps e
        refine ⟨t.tr, fun pos cv z => ?_⟩
        obtain ⟨c, e1, f, e2⟩ := t.at_ pos cv z
        refine ⟨c, e1, ⟨f, fun q => ?_⟩, e2⟩
        subst q
        rw [ha'] at e2
        cases e2⟩
      have hd : Hard (.lst (vs' ++ [w])) := .lst
      have pb2 := pb1.put (o := .lst (vs' ++ [w])) nf .lst
      have st : Stt B (lessF F' a) (upd H' a (.lst (vs' ++ [w]))) n' σ ρ' := by
        refine ⟨⟨fun b o q => ?_, fun b q => ⟨s'.grow.sub b q, fun z => nB (by rw [← z]; exact q)⟩, fun b q => s'.grow.new b q.1, pb2, s'.grow.le⟩, ⟨pb2, by rw [kl]; exact s'.hs.len, fun j y q => ?_⟩, fun j es b q1 _ => ?_, fun i j es fs b _ q1 _ _ _ => ?_⟩
        · have hb : b ≠ a := fun z => by rw [z, hB] at q; cases q
          rw [upd_ne hb]
          exact s'.grow.keep b o q
        · obtain ⟨d, rfl, q2, ap⟩ := kr j y q
          obtain ⟨u, u1, u2⟩ := s'.hs.at_ j _ q2
          exact ⟨u, u1, (Has.less hp0 hgd u2 ap).out nf⟩
        · obtain ⟨d, z, _⟩ := kr j _ q1
          cases z
        · obtain ⟨d, z, _⟩ := kr i _ q1
          cases z
      exact eo'.nx' σ ρ' _ _ n' st (.inl hnl) hk
    | _ => exact h.elim
/-! ### a def that is called where no list is tracked -/
def bodyWN (t : TDS) (N : Nat) (ds : List D) : Wm D := fun K X n => t { nx := fun _ n' => K .non n', rt := K, bk := fun _ _ => False, ct := fun _ _ => False, ex := fun x _ n' => X x n', nl := True } (ds.map (fun d => some (.d d)) ++ List.replicate (N - ds.length) none) n
theorem fn_okN {P : Program} {w : World} {K : PySem.W.Frag} {mg : Str → Option Value} {base : Heap} {x qual : Str} {st : Stmt} {f : Addr} {fd : FuncData} {N ps : List Str} {k : Nat} {t : Nat → TDS} {w' : List D → Wm D} (F : Fun K x qual st f fd) (S : FnScope N ps (defScope st))
    (hbody : ∀ (cdv : Value), fd.code = cdv → ∀ (A : Around) (outer : List Env) (s : Shared) (H : Hp) (E : XK) (L : Nat), s.heap.objs.size = L → A.guards = some [] → Room k (A.deeper (envOfC qual (defScope st) s.heap.objs.size f cdv)) → DSs (bCx P w K mg base N qual st f cdv A outer s H E) (bW E) (defBody st) (t L))
    (hw : ∀ L ds Kd Kx n, ds.length = ps.length → w' ds Kd Kx n → bodyWN (t L) N.length ds Kd Kx n) : FnG P w K mg base (k + 1) f fd ps (spDN ps.length w') := by
  refine FnG.of F S (fun vs H Q E h => h.2.1) fun cdv hcd A outer s H vs Q E hg hr h => ?_
  obtain ⟨nl, hl, F0, n, ds, Kd, Kx, pb, hv, hw', hq, hx⟩ := h
  obtain ⟨ts, p, r⟩ := hbody cdv hcd A outer s H E _ rfl hg hr
  refine ⟨ts, p (), ?_⟩
  have hd : ds.length = ps.length := by rw [← hv.len]; exact hl
  have h0 := hw s.heap.objs.size ds Kd Kx n hd hw'
  refine r ⟨F0, H, n⟩ F0 H n _ _ _ _ ⟨.refl pb, start_hasS pb hv, fun i es a e => absurd e start_noml, fun i j es fs a _ e => absurd e start_noml⟩ h0 ⟨fun σ' ρ' F' H' n' s' l hn => hq .non .non F' H' n' s'.grow .non hn, fun _ _ _ _ _ _ _ z => z.elim, fun _ _ _ _ _ _ _ z => z.elim,
    fun v d F' H' n' g hv' hk => hq v d F' H' n' g hv' hk, fun cls od xd σ' ρ' F' H' n' s' l hx' he => hx cls od xd F' H' n' s'.grow hx' he, fun _ => ⟨nl, fun a f => pb.dom a f⟩⟩
end DL


set_option maxRecDepth 100000
set_option maxHeartbeats 2000000
/-! DL27: a table of own classes that keep what they are handed; what their methods promise. Own work over HandS. -/
namespace DL
open PySem PySem.Spec PyProof.Rows L2
/-- a class: its name, where it lies, its fields, whether its key is its one field -/
abbrev CRow := Str × Addr × List Str × Bool
def isiB (K : PySem.W.Frag) (C : Addr) (fs : List Str) : Bool :=
  PySem.W.plainGet K C Str.empty && (PySem.W.hasDictIn K C && (PySem.W.plainOver K C && (decide (PySem.W.findIn K (.ref C) "__setattr__" = some (some (.builtin "object.__setattr__"))) &&
  (decide (PySem.W.findIn K (.ref C) "__class__" = some (some (.builtin "object.__class__"))) && (decide (PySem.W.specialIn K (.builtin "object.__class__") "__get__" = some (some (.builtin "getset_descriptor.__get__"))) &&
  (decide (PySem.W.takesIn K (.builtin "object.__class__") = some true) && (decide (PySem.W.mroIn K C (.type "object") = some true) && fs.all fun y => decide (PySem.W.findIn K (.ref C) y = some none))))))))
theorem isiB_ok {K : PySem.W.Frag} {C : Addr} {fs : List Str} (h : isiB K C fs = true) : IsiOk K C ∧ ∀ f ∈ fs, NoAttr K C f := by
  unfold isiB at h
  simp only [Bool.and_eq_true, decide_eq_true_eq, List.all_eq_true] at h
  obtain ⟨h1, h2, h3, h4, h5, h6, h7, h8, h9⟩ := h
  exact ⟨⟨⟨h1, h2, h3, h4⟩, h5, h6, h7, h8⟩, h9⟩
def clsTB (K : PySem.W.Frag) (T : List CRow) : Bool := T.all fun p => isiB K p.2.1 p.2.2.1 && T.all fun q => decide (PySem.W.kitOne K (.ref p.2.1) (.ref q.2.1) = some (decide (p.1 = q.1))) && PySem.W.notFirst K p.2.1 (.ref q.2.1)
section
variable {K : PySem.W.Frag} {T : List CRow}
theorem clsTB_at (h : clsTB K T = true) {p : CRow} (hp : p ∈ T) : IsiOk K p.2.1 ∧ (∀ f ∈ p.2.2.1, NoAttr K p.2.1 f) ∧ ∀ q ∈ T, PySem.W.kitOne K (.ref p.2.1) (.ref q.2.1) = some (decide (p.1 = q.1)) ∧ PySem.W.notFirst K p.2.1 (.ref q.2.1) = true := by
  have h1 := List.all_eq_true.mp h p hp
  rw [Bool.and_eq_true] at h1
  obtain ⟨i1, i2⟩ := isiB_ok h1.1
  refine ⟨i1, i2, fun q hq => ?_⟩
  have h2 := List.all_eq_true.mp h1.2 q hq
  rw [Bool.and_eq_true, decide_eq_true_eq] at h2
  exact h2
theorem isi_row (h : clsTB K T = true) {p q : CRow} (hp : p ∈ T) (hq : q ∈ T) {ns : List Str} {ds : List D} {Kd : D → Nat → Prop} {X : XD → Nat → Prop} {n : Nat} : fIsi1 K (.ref q.2.1) (.obj p.2.1 ns ds) Kd X n = Kd (.bl (decide (p.1 = q.1))) n :=
  isi_all (clsTB_at h hp).1 ((clsTB_at h hp).2.2 q hq).1
theorem fld_row (h : clsTB K T = true) {p : CRow} (hp : p ∈ T) {f : Str} (hf : f ∈ p.2.2.1) {ns : List Str} {ds : List D} {d : D} (e : fieldD ns ds f = some d) {Kd : D → Nat → Prop} {X : XD → Nat → Prop} {n : Nat} : fldW K f (.obj p.2.1 ns ds) Kd X n = Kd d n :=
  propext ⟨fun ⟨d', _, _, e', k⟩ => by rw [e] at e'; cases e'; exact k, fun k => ⟨d, (clsTB_at h hp).1.cl, (clsTB_at h hp).2.1 f hf, e, k⟩⟩
end
/-- a list as a tuple -/
def cpy : D → D
  | .lst ds => .tup ds
  | d => d
def wCopied : List D → Wm D := fun ds K _ n => ∃ d, ds = [d] ∧ baseD d = true ∧ K (cpy d) n
def wInit (C : Addr) (fs : List Str) : List D → Wm D := fun ds K _ n => (∀ d ∈ ds, baseD d = true) ∧ K (.obj C fs (ds.map cpy)) n
def keyD (b : Bool) (xs : List D) : D := if b then xs.headD .non else .tup xs
/-- own ==: of another class; of the same fields; of written fields -/
def wEqO (T : List CRow) (r : CRow) : List D → Wm D := fun ds K _ n => ∃ (q : CRow) (xs ys : List D), ds = [.obj r.2.1 r.2.2.1 xs, .obj q.2.1 q.2.2.1 ys] ∧ q ∈ T ∧ xs.length = r.2.2.1.length ∧
  ((q.1 ≠ r.1 ∧ K (.bl false) n) ∨ (q = r ∧ ys.length = r.2.2.1.length ∧ ((xs = ys ∧ nst 8 (keyD r.2.2.2 xs) = true ∧ K (.bl true) n) ∨ (EqOk (keyD r.2.2.2 xs) ∧ EqOk (keyD r.2.2.2 ys) ∧ K (.bl (eqD (keyD r.2.2.2 xs) (keyD r.2.2.2 ys))) n))))
def notK (K : D → Nat → Prop) : D → Nat → Prop := fun d n => match d with
  | .bl b => K (.bl (!b)) n
  | _ => False
def wNeO (T : List CRow) (r : CRow) : List D → Wm D := fun ds K X n => wEqO T r ds (notK K) X n
def TEqO (T R : List CRow) (C : Addr) (wf : List D → Wm D) : Prop := ∃ r ∈ R, C = r.2.1 ∧ wf = wEqO T r
def TNeO (T R : List CRow) (C : Addr) (wf : List D → Wm D) : Prop := ∃ r ∈ R, C = r.2.1 ∧ wf = wNeO T r
theorem wEqO.imp {T : List CRow} {r : CRow} {ds : List D} {K K' : D → Nat → Prop} {X X' : XD → Nat → Prop} {n : Nat} (h : wEqO T r ds K X n) (hk : ∀ b, K (.bl b) n → K' (.bl b) n) : wEqO T r ds K' X' n := by
  obtain ⟨q, xs, ys, e, hq, hl, h⟩ := h
  refine ⟨q, xs, ys, e, hq, hl, ?_⟩
  rcases h with ⟨a, b⟩ | ⟨a, b, c⟩
  · exact .inl ⟨a, hk _ b⟩
  · rcases c with ⟨c, d, e⟩ | ⟨c, d, e⟩
    · exact .inr ⟨a, b, .inl ⟨c, d, hk _ e⟩⟩
    · exact .inr ⟨a, b, .inr ⟨c, d, hk _ e⟩⟩
/-- x == y by x's own __eq__ -/
theorem eq_own {K : PySem.W.Frag} {T R : List CRow} {d e : D} {Kd : D → Nat → Prop} {X : XD → Nat → Prop} {n : Nat} (ct : clsTB K T = true) {r : CRow} (hr : r ∈ R) (hT : r ∈ T) (h : wEqO T r [d, e] Kd X n) : fEqU K (TEqO T R) d e Kd X n := by
  have h0 := h
  obtain ⟨q, xs, ys, e', hq, _, _⟩ := h
  cases e'
  exact .inr (.inr ⟨_, ⟨r, hr, rfl, rfl⟩, ((clsTB_at ct hT).2.2 q hq).2, h0.imp fun b k => ⟨⟨b, rfl⟩, k⟩⟩)
theorem ne_own {K : PySem.W.Frag} {T R : List CRow} {d e : D} {Kd : D → Nat → Prop} {X : XD → Nat → Prop} {n : Nat} (ct : clsTB K T = true) {r : CRow} (hr : r ∈ R) (hT : r ∈ T) (h : wNeO T r [d, e] Kd X n) : fNeU K (TNeO T R) d e Kd X n := by
  have h0 := h
  obtain ⟨q, xs, ys, e', hq, _, _⟩ := h
  cases e'
  exact .inr ⟨_, ⟨r, hr, rfl, rfl⟩, ((clsTB_at ct hT).2.2 q hq).2, wEqO.imp h0 fun b k => ⟨⟨!b, rfl⟩, k⟩⟩
/-! ### classes called, by what the top has written -/
structure CtorG (P : Program) (w : World) (K : PySem.W.Frag) (mg : Str → Option Value) (base : Heap) (x : Str) (C : Addr) (fs : List Str) (r : Bool) (k : Nat) : Prop where
  ex : ∃ fi fd ps, Mk K C fi ∧ FnG P w K mg base k fi fd ps (spI fs.length C (wInit C fs)) ∧ Binds K fd ps [] ∧ KwC r K fd ps fs ∧ ps.length = fs.length + 1 ∧ mg x = some (.ref C)
def mkB (K : PySem.W.Frag) (C f : Addr) : Bool := PySem.W.makesIn K C && (decide (PySem.W.findIn K (.ref C) "__init__" = some (some (.ref f))) && (PySem.W.isFn K (.ref f) && PySem.W.keepIn K (.ref C)))
theorem mkB_ok {K : PySem.W.Frag} {C f : Addr} (h : mkB K C f = true) : Mk K C f := by
  unfold mkB at h
  simp only [Bool.and_eq_true, decide_eq_true_eq] at h
  exact ⟨h.1, h.2.1, h.2.2.1, h.2.2.2⟩
def mk0B (K : PySem.W.Frag) (C : Addr) : Bool := PySem.W.makesIn K C && (decide (PySem.W.findIn K (.ref C) "__init__" = some (some (.builtin "object.__init__"))) && (PySem.W.keepIn K (.ref C) && decide (PySem.W.mroIn K C (.type "object") = some true)))
theorem mk0B_ok {K : PySem.W.Frag} {C : Addr} (h : mk0B K C = true) : Mk0 K C := by
  unfold mk0B at h
  simp only [Bool.and_eq_true, decide_eq_true_eq] at h
  exact ⟨h.1, h.2.1, h.2.2.1, h.2.2.2⟩
def methB (K : PySem.W.Frag) (C f : Addr) (nm : Str) : Bool := decide (PySem.W.findIn K (.ref C) nm = some (some (.ref f))) && PySem.W.isFn K (.ref f)
structure InitF (K : PySem.W.Frag) (mg : Str → Option Value) (x qual : Str) (st : Stmt) (C : Addr) (fs : List Str) (r : Bool) (ps : List Str) : Prop where
  ex : ∃ fi fd, Fun K "__init__" qual st fi fd ∧ Mk K C fi ∧ Binds K fd ps [] ∧ KwC r K fd ps fs ∧ mg x = some (.ref C)
structure MethF (K : PySem.W.Frag) (nm qual : Str) (st : Stmt) (C : Addr) (ps : List Str) : Prop where
  ex : ∃ f fd, Fun K nm qual st f fd ∧ methB K C f nm = true ∧ Binds K fd ps []
section
variable {P : Program} {w : World} {K : PySem.W.Frag} {mg : Str → Option Value} {base h : Heap}
theorem eqG_mk {C f : Addr} {fd : FuncData} {nm : Str} {ps : List Str} {k : Nat} {wf : List D → Wm D} (F : FnG P w K mg base k f fd ps (spD 2 wf)) (m : methB K C f nm = true) (hb : Binds K fd ps []) (hl : ps.length = 2) : EqG P w K mg base C nm k wf := by
  unfold methB at m
  simp only [Bool.and_eq_true, decide_eq_true_eq] at m
  exact ⟨f, fd, ps, F, m.1, m.2, hb, hl⟩
theorem eqG_of {C : Addr} {nm qual : Str} {st : Stmt} {ps : List Str} {k : Nat} {wf : List D → Wm D} (M : MethF K nm qual st C ps) (hl : ps.length = 2) (h : ∀ f fd, Fun K nm qual st f fd → FnG P w K mg base k f fd ps (spD 2 wf)) : EqG P w K mg base C nm k wf := by
  obtain ⟨f, fd, F, m, hb⟩ := M.ex
  exact eqG_mk (h f fd F) m hb hl
theorem methF_mk {nm qual : Str} {st : Stmt} {C f : Addr} {ps : List Str} {oc : Value} {od an : Option Addr} {osl : Array (Option Value)} {kV doc pm cdv ct : Value} (l : K.lookup f = some ⟨oc, od, .func (PySem.W.fnOf nm qual (defArgs st) (defBody st) (defScope st) .none kV doc pm an cdv ct), osl⟩)
    (c : PySem.W.codeIn K cdv qual = true) (k : PySem.W.keepIn K (.ref f) = true) (m : methB K C f nm = true) (hb : ∀ fd, Fun K nm qual st f fd → Binds K fd ps []) : MethF K nm qual st C ps :=
  have F := fun_mk (st := st) l c k
  ⟨f, _, F, m, hb _ F⟩
theorem initF_mk {x qual : Str} {st : Stmt} {C f : Addr} {ps fs : List Str} {r : Bool} {oc : Value} {od an : Option Addr} {osl : Array (Option Value)} {kV doc pm cdv ct : Value} (X : K.In h) (G : h.Ns mainGlobals mg) (a : PySem.W.nsIn K mainGlobals x = some (some (.ref C)))
    (l : K.lookup f = some ⟨oc, od, .func (PySem.W.fnOf "__init__" qual (defArgs st) (defBody st) (defScope st) .none kV doc pm an cdv ct), osl⟩) (c : PySem.W.codeIn K cdv qual = true) (k : PySem.W.keepIn K (.ref f) = true) (m : mkB K C f = true)
    (hb : ∀ fd, Fun K "__init__" qual st f fd → Binds K fd ps [])
    (hkw : ∀ (self : Value) (ws : List Value), ws.length = fs.length → bindArgs (PySem.W.fnOf "__init__" qual (defArgs st) (defBody st) (defScope st) .none kV doc pm an cdv ct) ⟨[self], (if r then fs.reverse else fs).zip ws⟩ = pure (ps.zip (self :: (if r then ws.reverse else ws)))) : InitF K mg x qual st C fs r ps :=
  have F := fun_mk (st := st) l c k
  ⟨f, _, F, mkB_ok m, hb _ F, fun _ self ws _ hl => .of_eq (hkw self ws hl), PySem.W.mg_of X G a⟩
theorem ctorG_of {x qual : Str} {st : Stmt} {C : Addr} {ps fs : List Str} {r : Bool} {k : Nat} (I : InitF K mg x qual st C fs r ps) (hps : ps.length = fs.length + 1) (h : ∀ f fd, Fun K "__init__" qual st f fd → FnG P w K mg base k f fd ps (spI fs.length C (wInit C fs))) : CtorG P w K mg base x C fs r k := by
  obtain ⟨f, fd, F, m, hb, kw, g⟩ := I.ex
  exact ⟨f, fd, ps, m, h f fd F, hb, kw, hps, g⟩
end
theorem setF_at {K : PySem.W.Frag} {f : Str} {at0 : Option Addr} {C : Addr} {ns : List Str} {ds : List D} {t : TD D} {E : DEnds} {ρ : Env'} {n : Nat} (hρ : ρ[(0 : Nat)]? = some (some (.m ⟨at0, .obj C ns ds⟩))) (c : Cls K C) (no : NoAttr K C f) (hl : ns.length < 1000)
    (h : t ρ (fun d n' => E.nx (ρ.set 0 (some (.m ⟨at0, .obj C (putNs f ns) (putDs f d ns ds)⟩))) n') (fun x n' => E.ex x ρ n') n) : dSetF K 0 f t E ρ n := by
  have e : (fun (d : D) (n' : Nat) => E.nx (ρ.set 0 (some (.m ⟨at0, .obj C (putNs f ns) (putDs f d ns ds)⟩))) n') = fun (d : D) (n' : Nat) => (match ρ[(0 : Nat)]? with
    | some (some (.m ⟨at0, .obj C ns ds⟩)) => Cls K C ∧ NoAttr K C f ∧ ns.length < 1000 ∧ E.nx (ρ.set 0 (some (.m ⟨at0, .obj C (putNs f ns) (putDs f d ns ds)⟩))) n'
    | _ => False) := by
    funext d n'
    rw [hρ]
    exact propext ⟨fun k => ⟨c, no, hl, k⟩, fun k => k.2.2.2⟩
  rw [e] at h
  exact h
/-! ### == of written data -/
theorem eqv_int {i j : Int} : PyData.eqv (.int i) (.int j) = decide (i = j) := by
  rw [Bool.eq_iff_iff]
  simp [PyData.eqv]
theorem eqv_str {i j : Str} : PyData.eqv (.str i) (.str j) = decide (i = j) := by
  rw [Bool.eq_iff_iff]
  simp [PyData.eqv]
theorem eqv_bool {i j : Bool} : PyData.eqv (.bool i) (.bool j) = decide (i = j) := by
  rw [Bool.eq_iff_iff]
  simp [PyData.eqv]
theorem scl_eqD {d e : D} {c : Bool} (h : sclE d e = some c) : eqD d e = c := by
  unfold sclE at h
  split at h
  · cases h; unfold eqD pyD; exact eqv_int
  · cases h; unfold eqD pyD; exact eqv_str
  · cases h; unfold eqD pyD; exact eqv_bool
  · cases h; unfold eqD pyD; rfl
  · cases h
theorem fEq_data {d e : D} {K : D → Nat → Prop} {X : XD → Nat → Prop} {n : Nat} (h1 : EqOk d) (h2 : EqOk e) (h : K (.bl (eqD d e)) n) : fEqA d e K X n := by
  unfold fEqA
  cases q : sclE d e with
  | some c => rw [scl_eqD q] at h; exact h
  | none => exact ⟨⟨h1, h2⟩, h⟩
/-! ### lists within -/
mutual
/-- every list within has p -/
def allP (p : List D → Bool) : D → Bool
  | .non | .bl _ | .int _ | .str _ => true
  | .tup ds => allPL p ds
  | .lst ds => p ds && allPL p ds
  | .dic _ ds => allPL p ds
  | .obj _ _ ds => allPL p ds
  | _ => false
def allPL (p : List D → Bool) : List D → Bool
  | [] => true
  | d :: ds => allP p d && allPL p ds
end
mutual
theorem allP.apart {p : List D → Bool} {es : List D} (he : p es = false) : ∀ {d : D}, allP p d = true → Apart (.lst es) d
  | .non, _ => by unfold Apart; trivial
  | .bl _, _ => by unfold Apart; trivial
  | .int _, _ => by unfold Apart; trivial
  | .str _, _ => by unfold Apart; trivial
  | .tup ds, h => by unfold allP at h; unfold Apart; exact allPL.apart he h
  | .lst ds, h => by
    unfold allP at h
    rw [Bool.and_eq_true] at h
    unfold Apart
    refine ⟨fun e => ?_, allPL.apart he h.2⟩
    cases e
    rw [he] at h
    cases h.1
  | .dic _ ds, h => by unfold allP at h; unfold Apart; exact allPL.apart he h
  | .obj _ _ ds, h => by unfold allP at h; unfold Apart; exact allPL.apart he h
  | .exc _ _ _, h => by unfold allP at h; cases h
  | .pen, h => by unfold allP at h; cases h
  | .clo _ _ _, h => by unfold allP at h; cases h
  | .fnA _, h => by unfold allP at h; cases h
  | .scr _ _ _, h => by unfold allP at h; cases h
theorem allPL.apart {p : List D → Bool} {es : List D} (he : p es = false) : ∀ {ds : List D}, allPL p ds = true → ApartL (.lst es) ds
  | [], _ => by unfold ApartL; trivial
  | d :: ds, h => by
    unfold allPL at h
    rw [Bool.and_eq_true] at h
    unfold ApartL
    exact ⟨allP.apart he h.1, allPL.apart he h.2⟩
end
end DL


set_option maxRecDepth 100000
set_option maxHeartbeats 2000000

namespace L90
open PySem PySem.Spec PyProof.Rows L2 DL
def topS (i : Nat) : Stmt := PySem.Challenge.pw_drawproofs_k90_classes_made_by_hand.main.body.getD i (.Pass ⟨0, 0, 0, 0⟩)
abbrev s_copied : Stmt := topS 1
theorem sc_copied : FnScope ["value"] ["value"] (defScope s_copied) := ⟨rfl, rfl, rfl, by decide +kernel, rfl, by decide +kernel, by decide +kernel⟩
abbrev s_model_key : Stmt := topS 8
theorem sc_model_key : FnScope ["model"] ["model"] (defScope s_model_key) := ⟨rfl, rfl, rfl, by decide +kernel, rfl, by decide +kernel, by decide +kernel⟩
abbrev s_leaf_key : Stmt := topS 15
theorem sc_leaf_key : FnScope ["leaf"] ["leaf"] (defScope s_leaf_key) := ⟨rfl, rfl, rfl, by decide +kernel, rfl, by decide +kernel, by decide +kernel⟩
abbrev s_paper_key : Stmt := topS 18
theorem sc_paper_key : FnScope ["paper"] ["paper"] (defScope s_paper_key) := ⟨rfl, rfl, rfl, by decide +kernel, rfl, by decide +kernel, by decide +kernel⟩
abbrev s__law_pen : Stmt := topS 22
theorem sc__law_pen : FnScope ["script", "fold", "cell"] ["script"] (defScope s__law_pen) := ⟨rfl, rfl, rfl, by decide +kernel, rfl, by decide +kernel, by decide +kernel⟩
abbrev s__law_draw : Stmt := topS 23
theorem sc__law_draw : FnScope ["pen", "many", "cell", "digit", "blend"] ["pen", "many"] (defScope s__law_draw) := ⟨rfl, rfl, rfl, by decide +kernel, rfl, by decide +kernel, by decide +kernel⟩
abbrev s__law_pick : Stmt := topS 24
theorem sc__law_pick : FnScope ["pen", "some"] ["pen", "some"] (defScope s__law_pick) := ⟨rfl, rfl, rfl, by decide +kernel, rfl, by decide +kernel, by decide +kernel⟩
abbrev s__law_value : Stmt := topS 25
theorem sc__law_value : FnScope ["pen", "some", "k"] ["pen"] (defScope s__law_value) := ⟨rfl, rfl, rfl, by decide +kernel, rfl, by decide +kernel, by decide +kernel⟩
abbrev s__law_copy : Stmt := topS 26
theorem sc__law_copy : FnScope ["value"] ["value"] (defScope s__law_copy) := ⟨rfl, rfl, rfl, by decide +kernel, rfl, by decide +kernel, by decide +kernel⟩
abbrev s__law_fields : Stmt := topS 27
theorem sc__law_fields : FnScope ["one"] ["one"] (defScope s__law_fields) := ⟨rfl, rfl, rfl, by decide +kernel, rfl, by decide +kernel, by decide +kernel⟩
abbrev s__law_rows : Stmt := topS 28
theorem sc__law_rows : FnScope ["a", "b", "c", "d", "e", "f", "rows"] ["a", "b", "c", "d"] (defScope s__law_rows) := ⟨rfl, rfl, rfl, by decide +kernel, rfl, by decide +kernel, by decide +kernel⟩
abbrev s_law : Stmt := topS 29
theorem sc_law : FnScope ["script", "pen", "values", "k", "a", "b", "c", "d", "value", "rows", "one", "two", "due", "other", "leaf", "found", "split", "before"] ["script"] (defScope s_law) := ⟨rfl, rfl, rfl, by decide +kernel, rfl, by decide +kernel, by decide +kernel⟩
abbrev fs_Always : List Str := ["unless"]
abbrev fs_Fails : List Str := ["row", "leaf"]
abbrev fs_NoDrawing : List Str := ["step"]
abbrev fs_Found : List Str := ["claims", "answers", "paper"]
abbrev fs_Model : List Str := ["steps", "claims"]
abbrev fs_Paper : List Str := ["unless", "shares", "leaves", "numbers"]
abbrev fs_Leaf : List Str := ["choices", "tower", "places", "inverses", "void"]
abbrev fs_Inverse : List Str := ["number"]
abbrev fs_Nothing : List Str := []
abbrev fs_Split : List Str := ["level", "r"]
abbrev CT (C_Always C_Fails C_NoDrawing C_Found C_Model C_Paper C_Leaf C_Inverse C_Nothing C_Split : Addr) : List CRow := [("Always", C_Always, fs_Always, true), ("Fails", C_Fails, fs_Fails, false), ("NoDrawing", C_NoDrawing, fs_NoDrawing, true), ("Found", C_Found, fs_Found, false), ("Model", C_Model, fs_Model, false), ("Paper", C_Paper, fs_Paper, false), ("Leaf", C_Leaf, fs_Leaf, false), ("Inverse", C_Inverse, fs_Inverse, false), ("Nothing", C_Nothing, fs_Nothing, false), ("Split", C_Split, fs_Split, false)]
abbrev ER (C_Always C_Fails C_NoDrawing C_Model C_Paper C_Leaf : Addr) : List CRow := [("Always", C_Always, fs_Always, true), ("Fails", C_Fails, fs_Fails, false), ("NoDrawing", C_NoDrawing, fs_NoDrawing, true), ("Model", C_Model, fs_Model, false), ("Paper", C_Paper, fs_Paper, false), ("Leaf", C_Leaf, fs_Leaf, false)]
theorem ifT {p : Prop} [Decidable p] {a b : Prop} (hp : p) (h : a) : if p then a else b := by rw [if_pos hp]; exact h
theorem ifF {p : Prop} [Decidable p] {a b : Prop} (hp : ¬ p) (h : b) : if p then a else b := by rw [if_neg hp]; exact h
theorem seq_split {A R : TDS} {E : DEnds} {ρ : Env'} {n : Nat} (I : Env' → Nat → Prop) (h2 : ∀ ρ' n', I ρ' n' → R E ρ' n') (h1 : ∀ nx : Env' → Nat → Prop, (∀ ρ' n', I ρ' n' → nx ρ' n') → A { E with nx := nx } ρ n) : dSeq A R E ρ n := h1 _ h2
def w__law_pen (Kf : PySem.W.Frag) : List D → Wm D
  | [.scr K' ns _] => fun K _ n => (K' = Kf ∧ ns.length ≤ 63) ∧ K .pen n
  | _ => Wm.fail
def w__law_pick : List D → Wm D
  | [.pen, .lst ds] => fun K _ n => (0 < ds.length ∧ ds.length ≤ 1000 ∧ n < 1099511627776) ∧ ∀ d ∈ ds, K d (n + 1)
  | _ => Wm.fail
abbrev w__law_draw := drawW
/-- the written values -/
abbrev VALS : List D := [.tup [.int 1, .int 2], .lst [.int 1, .lst [.int 2]], .lst [], .tup [], .str "web", .int 5, .non, .bl true, .tup [.tup [.int 0, .int 1]], .lst [.lst [.int 0], .lst [.int 1]], .dic [.inr "a"] [.int 1], .int (-3), .str "", .lst [.non]]
def Val (d : D) : Prop := d ∈ VALS ∨ ∃ x y z : Nat, x < 9 ∧ y < 9 ∧ z < 9 ∧ d = .lst [.int x, .int y, .int z]
def w__law_value : List D → Wm D := fun ds K _ n => ds = [.pen] ∧ n ≤ 1000 ∧ ∀ d, Val d → K d (n + 1 + 1 + 1 + 1)
def w_key (C : Addr) (fs : List Str) : List D → Wm D := fun ds K _ n => ∃ xs, ds = [.obj C fs xs] ∧ xs.length = fs.length ∧ K (.tup xs) n
def w_fields (T : List CRow) : List D → Wm D := fun ds K _ n => ∃ (r : CRow) (xs : List D), ds = [.obj r.2.1 r.2.2.1 xs] ∧ xs.length = r.2.2.1.length ∧ r ∈ T.take 7 ∧ K (.lst (.str r.1 :: xs)) n
abbrev rowsD (C_Always C_Fails C_NoDrawing C_Found C_Model C_Paper C_Leaf C_Inverse C_Nothing C_Split : Addr) (a b c d : D) : List D := [
  .tup [.obj C_Always fs_Always [cpy a], .obj C_Always fs_Always [cpy a], .lst [.str "Always", cpy a]],
  .tup [.obj C_Fails fs_Fails [cpy a, cpy b], .obj C_Fails fs_Fails [cpy a, cpy b], .lst [.str "Fails", cpy a, cpy b]],
  .tup [.obj C_NoDrawing fs_NoDrawing [cpy c], .obj C_NoDrawing fs_NoDrawing [cpy c], .lst [.str "NoDrawing", cpy c]],
  .tup [.obj C_Model fs_Model [cpy a, cpy b], .obj C_Model fs_Model [cpy a, cpy b], .lst [.str "Model", cpy a, cpy b]],
  .tup [.obj C_Paper fs_Paper [cpy a, cpy b, cpy c, cpy d], .obj C_Paper fs_Paper [cpy a, cpy b, cpy c, cpy d], .lst [.str "Paper", cpy a, cpy b, cpy c, cpy d]]]
def w_rows (C_Always C_Fails C_NoDrawing C_Found C_Model C_Paper C_Leaf C_Inverse C_Nothing C_Split : Addr) : List D → Wm D := fun ds K _ n => ∃ a b c d : D, ds = [a, b, c, d] ∧ baseD a = true ∧ baseD b = true ∧ baseD c = true ∧ baseD d = true ∧ K (.lst (rowsD C_Always C_Fails C_NoDrawing C_Found C_Model C_Paper C_Leaf C_Inverse C_Nothing C_Split a b c d)) n
def w_law (Kf : PySem.W.Frag) : List D → Wm D := fun ds Kd _ n => ∃ ns tabs, ds = [.scr Kf ns tabs] ∧ ns.length ≤ 63 ∧ n = 0 ∧ ∀ n', Kd (.bl true) n'
theorem forall_one {p : D → Prop} {a : D} (h : p a) : ∀ d ∈ [a], p d := fun d hd => by rw [List.mem_singleton.mp hd]; exact h
theorem forall_more {p : D → Prop} {a : D} {l : List D} (h : p a) (k : ∀ d ∈ l, p d) : ∀ d ∈ a :: l, p d := fun d hd => by
  rcases List.mem_cons.mp hd with e | e
  · rw [e]; exact h
  · exact k d e
/-- lists that are none of the drawn ones -/
def pF : List D → Bool
  | [.int _] => true
  | .str _ :: _ => true
  | .tup _ :: _ => true
  | _ => false
def factB (d : D) : Bool := baseD d && (nst 7 (cpy d) && (nst 8 (cpy d) && (showD (cpy d) && ((pyD (cpy d)).showable && ((pyD (cpy d)).leavesShort 202 && (decide ((pyD (cpy d)).depth ≤ 10) && (decide ((pyD (cpy d)).bulk ≤ 100) && (allP pF (cpy d) &&
  (match d with
  | .lst es => !pF es && good (.lst es) && decide (es.length ≤ 10)
  | _ => true)))))))))
theorem val_fact {d : D} (h : Val d) : factB d = true := by
  rcases h with h | ⟨x, y, z, hx, hy, hz, rfl⟩
  · exact List.all_eq_true.mp (show VALS.all factB = true by decide +kernel) d h
  · have k : ∀ x, x < 9 → ∀ y, y < 9 → ∀ z, z < 9 → factB (.lst [.int ((x : Nat) : Int), .int ((y : Nat) : Int), .int ((z : Nat) : Int)]) = true := by decide +kernel
    exact k x hx y hy z hz
theorem val_base {d : D} (h : Val d) : baseD d = true := by
  have := val_fact h
  unfold factB at this
  simp only [Bool.and_eq_true] at this
  exact this.1
theorem val_nst7 {d : D} (h : Val d) : nst 7 (cpy d) = true := by
  have := val_fact h
  unfold factB at this
  simp only [Bool.and_eq_true] at this
  exact this.2.1
theorem val_nst8 {d : D} (h : Val d) : nst 8 (cpy d) = true := by
  have := val_fact h
  unfold factB at this
  simp only [Bool.and_eq_true] at this
  exact this.2.2.1
theorem val_small {d : D} (h : Val d) : SmallX (cpy d) := by
  have := val_fact h
  unfold factB at this
  simp only [Bool.and_eq_true, decide_eq_true_eq] at this
  obtain ⟨_, _, _, h1, h2, h3, h4, h5, _⟩ := this
  exact ⟨h1, h2, h3, h4, h5⟩
theorem val_allP {d : D} (h : Val d) : allP pF (cpy d) = true := by
  have := val_fact h
  unfold factB at this
  simp only [Bool.and_eq_true, decide_eq_true_eq] at this
  exact this.2.2.2.2.2.2.2.2.1
theorem val_lst {es : List D} (h : Val (.lst es)) : pF es = false ∧ good (.lst es) = true ∧ es.length ≤ 10 := by
  have := val_fact h
  unfold factB at this
  simp only [Bool.and_eq_true, decide_eq_true_eq, Bool.not_eq_true'] at this
  have := this.2.2.2.2.2.2.2.2.2
  exact ⟨this.1.1, this.1.2, this.2⟩
theorem shows_row {ds : List D} (hl : ds.length ≤ 6) (h : ∀ d ∈ ds, SmallX d) : ShowsX (.lst ds) := by
  have key : ∀ es : List D, (∀ d ∈ es, SmallX d) → showL es = true ∧ PyData.showableAll (pyL es) = true ∧ PyData.leavesShortAll 202 (pyL es) = true ∧ PyData.depthAll (pyL es) ≤ 10 ∧ PyData.bulkAll (pyL es) ≤ 102 * es.length + 2 := by
    intro es
    induction es with
    | nil => intro _; simp [showL, pyL, PyData.showableAll, PyData.leavesShortAll, PyData.depthAll, PyData.bulkAll]
    | cons e es ih =>
      intro h
      obtain ⟨a1, a2, a3, a4, a5⟩ := h e List.mem_cons_self
      obtain ⟨b1, b2, b3, b4, b5⟩ := ih fun d hd => h d (List.mem_cons_of_mem _ hd)
      refine ⟨?_, ?_, ?_, ?_, ?_⟩
      · simp [showL, a1, b1]
      · simp [pyL, PyData.showableAll, a2, b2]
      · simp [pyL, PyData.leavesShortAll, a3, b3]
      · simp [pyL, PyData.depthAll]; omega
      · simp [pyL, PyData.bulkAll]; omega
  obtain ⟨k1, k2, k3, k4, k5⟩ := key ds h
  have hs : (pyD (.lst ds)).leavesShort 202 = true := by simp [pyD, PyData.leavesShort, k3]
  have hb := PyData.shown_le_bulk 202 (by decide) (pyD (.lst ds)) hs
  have hbb : (pyD (.lst ds)).bulk ≤ 1000 := by
    simp [pyD, PyData.bulk]
    omega
  refine ⟨by simp [showD, k1], by simp [pyD, PyData.showable, k2], by simp [pyD, PyData.depth]; omega, ?_⟩
  rw [sizeLine_eq]
  omega
theorem small_str {x : Str} (h : (PyData.showable (.str x) && PyData.leavesShort 202 (.str x) && decide (PyData.bulk (.str x) ≤ 100)) = true) : SmallX (.str x) := by
  simp only [Bool.and_eq_true, decide_eq_true_eq] at h
  exact ⟨rfl, h.1.1, h.1.2, by simp [pyD, PyData.depth], h.2⟩
theorem small_one {d : D} (h : SmallX d) : ShowsX d := by
  obtain ⟨a1, a2, a3, a4, a5⟩ := h
  have hb := PyData.shown_le_bulk 202 (by decide) (pyD d) a3
  refine ⟨a1, a2, by omega, ?_⟩
  rw [sizeLine_eq]
  omega
theorem fNe_data {d e : D} {K : D → Nat → Prop} {X : XD → Nat → Prop} {n : Nat} (h1 : EqOk d) (h2 : EqOk e) (h : K (.bl (!eqD d e)) n) : fNeA d e K X n := by
  unfold fNeA
  cases q : sclE d e with
  | some c => rw [scl_eqD q] at h; exact h
  | none => exact ⟨⟨h1, h2⟩, h⟩
def NM (i : Nat) : Str := (["Always", "Fails", "NoDrawing", "Model", "Paper"] : List Str).getD i ""
theorem nm_ne : ∀ i, i < 5 → ∀ j, j < 5 → i ≠ j → NM i ≠ NM j := by decide +kernel
def RowIn (C_Always C_Fails C_NoDrawing C_Found C_Model C_Paper C_Leaf C_Inverse C_Nothing C_Split : Addr) (nm : Str) (d : D) : Prop := ∃ (r : CRow) (xs : List D), d = .tup [.obj r.2.1 r.2.2.1 xs, .obj r.2.1 r.2.2.1 xs, .lst (.str r.1 :: xs)] ∧ r ∈ (ER C_Always C_Fails C_NoDrawing C_Model C_Paper C_Leaf) ∧ r ∈ (CT C_Always C_Fails C_NoDrawing C_Found C_Model C_Paper C_Leaf C_Inverse C_Nothing C_Split) ∧ r ∈ (CT C_Always C_Fails C_NoDrawing C_Found C_Model C_Paper C_Leaf C_Inverse C_Nothing C_Split).take 7 ∧ xs.length = r.2.2.1.length ∧ ShowsX (.lst (.str r.1 :: xs)) ∧ nst 8 (keyD r.2.2.2 xs) = true ∧ r.1 = nm
theorem nst_tup {ds : List D} (h : ∀ d ∈ ds, nst 7 d = true) : nst 8 (.tup ds) = true := by
  unfold nst
  exact List.all_eq_true.mpr h
theorem rows_ok {C_Always C_Fails C_NoDrawing C_Found C_Model C_Paper C_Leaf C_Inverse C_Nothing C_Split : Addr} {a b c d : D} (ha : Val a) (hb : Val b) (hc : Val c) (hd : Val d) : ∀ i : Nat, i < 5 → ∃ x, (rowsD C_Always C_Fails C_NoDrawing C_Found C_Model C_Paper C_Leaf C_Inverse C_Nothing C_Split a b c d)[i]? = some x ∧ RowIn C_Always C_Fails C_NoDrawing C_Found C_Model C_Paper C_Leaf C_Inverse C_Nothing C_Split (NM i) x := by
  intro i hi
  match i, hi with
  | 0, _ => exact ⟨_, rfl, (("Always", C_Always, fs_Always, true) : CRow), [cpy a], rfl, by simp [ER], by simp [CT], by simp [CT], rfl, shows_row (by simp) (forall_more (small_str (x := "Always") (by decide +kernel)) (forall_one (val_small ha))), val_nst8 ha, rfl⟩
  | 1, _ => exact ⟨_, rfl, (("Fails", C_Fails, fs_Fails, false) : CRow), [cpy a, cpy b], rfl, by simp [ER], by simp [CT], by simp [CT], rfl, shows_row (by simp) (forall_more (small_str (x := "Fails") (by decide +kernel)) (forall_more (val_small ha) (forall_one (val_small hb)))), nst_tup (forall_more (val_nst7 ha) (forall_one (val_nst7 hb))), rfl⟩
  | 2, _ => exact ⟨_, rfl, (("NoDrawing", C_NoDrawing, fs_NoDrawing, true) : CRow), [cpy c], rfl, by simp [ER], by simp [CT], by simp [CT], rfl, shows_row (by simp) (forall_more (small_str (x := "NoDrawing") (by decide +kernel)) (forall_one (val_small hc))), val_nst8 hc, rfl⟩
  | 3, _ => exact ⟨_, rfl, (("Model", C_Model, fs_Model, false) : CRow), [cpy a, cpy b], rfl, by simp [ER], by simp [CT], by simp [CT], rfl, shows_row (by simp) (forall_more (small_str (x := "Model") (by decide +kernel)) (forall_more (val_small ha) (forall_one (val_small hb)))), nst_tup (forall_more (val_nst7 ha) (forall_one (val_nst7 hb))), rfl⟩
  | 4, _ => exact ⟨_, rfl, (("Paper", C_Paper, fs_Paper, false) : CRow), [cpy a, cpy b, cpy c, cpy d], rfl, by simp [ER], by simp [CT], by simp [CT], rfl, shows_row (by simp) (forall_more (small_str (x := "Paper") (by decide +kernel)) (forall_more (val_small ha) (forall_more (val_small hb) (forall_more (val_small hc) (forall_one (val_small hd)))))), nst_tup (forall_more (val_nst7 ha) (forall_more (val_nst7 hb) (forall_more (val_nst7 hc) (forall_one (val_nst7 hd))))), rfl⟩
theorem rows_allP {C_Always C_Fails C_NoDrawing C_Found C_Model C_Paper C_Leaf C_Inverse C_Nothing C_Split : Addr} {a b c d : D} (ha : Val a) (hb : Val b) (hc : Val c) (hd : Val d) : allP pF (.lst (rowsD C_Always C_Fails C_NoDrawing C_Found C_Model C_Paper C_Leaf C_Inverse C_Nothing C_Split a b c d)) = true := by
  simp [allP, allPL, pF, val_allP ha, val_allP hb, val_allP hc, val_allP hd]
theorem neU_str {K : PySem.W.Frag} {T : Addr → (List D → Wm D) → Prop} {s t : Str} {Kd : D → Nat → Prop} {X : XD → Nat → Prop} {n : Nat} (h : Kd (.bl (!decide (s = t))) n) : fNeU K T (.str s) (.str t) Kd X n := .inl h
theorem eqU_str {K : PySem.W.Frag} {T : Addr → (List D → Wm D) → Prop} {s t : Str} {Kd : D → Nat → Prop} {X : XD → Nat → Prop} {n : Nat} (h : Kd (.bl (decide (s = t))) n) : fEqU K T (.str s) (.str t) Kd X n := .inl h
theorem neU_int {K : PySem.W.Frag} {T : Addr → (List D → Wm D) → Prop} {s t : Int} {Kd : D → Nat → Prop} {X : XD → Nat → Prop} {n : Nat} (h : Kd (.bl (!decide (s = t))) n) : fNeU K T (.int s) (.int t) Kd X n := .inl h
theorem row_ix {R : List D} {i : Nat} {x : D} (h : R[i]? = some x) {Kd : D → Nat → Prop} {X : XD → Nat → Prop} {n : Nat} : fIx (.lst R) (.int (i : Int)) Kd X n = Kd x n := fIx_l (atI_of h)
theorem eq_diff {K : PySem.W.Frag} {T R : List CRow} {Kd : D → Nat → Prop} {X : XD → Nat → Prop} {n : Nat} (ct : clsTB K T = true) (r : CRow) (m1 : r ∈ R) (m2 : r ∈ T) (b : Bool) (hb : r.2.2.2 = b) {xs ys : List D} (hx : xs.length = r.2.2.1.length) (hy : ys.length = r.2.2.1.length)
    (h1 : EqOk (keyD b xs)) (h2 : EqOk (keyD b ys)) (e : eqD (keyD b xs) (keyD b ys) = false) (h : Kd (.bl false) n) : fEqU K (TEqO T R) (.obj r.2.1 r.2.2.1 xs) (.obj r.2.1 r.2.2.1 ys) Kd X n :=
  eq_own ct m1 m2 ⟨r, xs, ys, rfl, m2, hx, .inr ⟨rfl, hy, .inr ⟨by rw [hb]; exact h1, by rw [hb]; exact h2, by rw [hb, e]; exact h⟩⟩⟩
theorem ne_same {K : PySem.W.Frag} {T R : List CRow} {Kd : D → Nat → Prop} {X : XD → Nat → Prop} {n : Nat} (ct : clsTB K T = true) (r : CRow) (m1 : r ∈ R) (m2 : r ∈ T) {xs : List D} (hx : xs.length = r.2.2.1.length) (hn : nst 8 (keyD r.2.2.2 xs) = true) (h : Kd (.bl false) n) : fNeU K (TNeO T R) (.obj r.2.1 r.2.2.1 xs) (.obj r.2.1 r.2.2.1 xs) Kd X n :=
  ne_own ct m1 m2 ⟨r, xs, xs, rfl, m2, hx, .inr ⟨rfl, hx, .inl ⟨rfl, hn, h⟩⟩⟩
theorem neU_data {K : PySem.W.Frag} {T : Addr → (List D → Wm D) → Prop} {d e : D} {Kd : D → Nat → Prop} {X : XD → Nat → Prop} {n : Nat} (h1 : EqOk d) (h2 : EqOk e) (h : Kd (.bl (!eqD d e)) n) : fNeU K T d e Kd X n := .inl (fNe_data h1 h2 h)
theorem tup29 : EqOk (.tup [.int 2, .int 9]) ∧ eqD (.tup [.int 2, .int 9]) (.tup [.int 2, .int 9]) = true := ⟨⟨by decide +kernel, by decide +kernel⟩, by decide +kernel⟩
theorem keep_two {x r b : D} {ρ : Env'} (hl : ρ.length = 18) (h9 : ρ[(9 : Nat)]? = some (some (.d r))) (h17 : ρ[(17 : Nat)]? = some (some (.d b))) (ar : DL.Apart x r) (ab : DL.Apart x b) :
    KeepR [none, none, none, none, none, none, none, none, none, some (.d r), none, none, none, none, none, none, none, some (.d b)] ρ x := by
  refine ⟨by rw [hl]; rfl, fun j y hj => ?_⟩
  match j, hj with
  | 9, hj => cases hj; exact ⟨r, rfl, h9, ar⟩
  | 17, hj => cases hj; exact ⟨b, rfl, h17, ab⟩
  | 0, hj => cases hj
  | 1, hj => cases hj
  | 2, hj => cases hj
  | 3, hj => cases hj
  | 4, hj => cases hj
  | 5, hj => cases hj
  | 6, hj => cases hj
  | 7, hj => cases hj
  | 8, hj => cases hj
  | 10, hj => cases hj
  | 11, hj => cases hj
  | 12, hj => cases hj
  | 13, hj => cases hj
  | 14, hj => cases hj
  | 15, hj => cases hj
  | 16, hj => cases hj
  | j + 18, hj => cases hj
theorem apart_str {x : D} {s : Str} : DL.Apart x (.str s) := by unfold DL.Apart; trivial


section
variable {P : Program} {w : World} {K : PySem.W.Frag} {mg : Str → Option Value} {base : Heap}
variable {C_Always C_Fails C_NoDrawing C_Found C_Model C_Paper C_Leaf C_Inverse C_Nothing C_Split : Addr}

theorem row_Always : (("Always", C_Always, fs_Always, true) : CRow) ∈ (CT C_Always C_Fails C_NoDrawing C_Found C_Model C_Paper C_Leaf C_Inverse C_Nothing C_Split) := by simp [CT]
theorem fe_Always_unless (ct : clsTB K (CT C_Always C_Fails C_NoDrawing C_Found C_Model C_Paper C_Leaf C_Inverse C_Nothing C_Split) = true) {x0 : D} {Kd : D → Nat → Prop} {X : XD → Nat → Prop} {n : Nat} : fldW K "unless" (.obj C_Always fs_Always [x0]) Kd X n = Kd x0 n := fld_row (p := (("Always", C_Always, fs_Always, true) : CRow)) ct row_Always (by simp) rfl
theorem row_Fails : (("Fails", C_Fails, fs_Fails, false) : CRow) ∈ (CT C_Always C_Fails C_NoDrawing C_Found C_Model C_Paper C_Leaf C_Inverse C_Nothing C_Split) := by simp [CT]
theorem fe_Fails_row (ct : clsTB K (CT C_Always C_Fails C_NoDrawing C_Found C_Model C_Paper C_Leaf C_Inverse C_Nothing C_Split) = true) {x0 x1 : D} {Kd : D → Nat → Prop} {X : XD → Nat → Prop} {n : Nat} : fldW K "row" (.obj C_Fails fs_Fails [x0, x1]) Kd X n = Kd x0 n := fld_row (p := (("Fails", C_Fails, fs_Fails, false) : CRow)) ct row_Fails (by simp) rfl
theorem fe_Fails_leaf (ct : clsTB K (CT C_Always C_Fails C_NoDrawing C_Found C_Model C_Paper C_Leaf C_Inverse C_Nothing C_Split) = true) {x0 x1 : D} {Kd : D → Nat → Prop} {X : XD → Nat → Prop} {n : Nat} : fldW K "leaf" (.obj C_Fails fs_Fails [x0, x1]) Kd X n = Kd x1 n := fld_row (p := (("Fails", C_Fails, fs_Fails, false) : CRow)) ct row_Fails (by simp) rfl
theorem row_NoDrawing : (("NoDrawing", C_NoDrawing, fs_NoDrawing, true) : CRow) ∈ (CT C_Always C_Fails C_NoDrawing C_Found C_Model C_Paper C_Leaf C_Inverse C_Nothing C_Split) := by simp [CT]
theorem fe_NoDrawing_step (ct : clsTB K (CT C_Always C_Fails C_NoDrawing C_Found C_Model C_Paper C_Leaf C_Inverse C_Nothing C_Split) = true) {x0 : D} {Kd : D → Nat → Prop} {X : XD → Nat → Prop} {n : Nat} : fldW K "step" (.obj C_NoDrawing fs_NoDrawing [x0]) Kd X n = Kd x0 n := fld_row (p := (("NoDrawing", C_NoDrawing, fs_NoDrawing, true) : CRow)) ct row_NoDrawing (by simp) rfl
theorem row_Found : (("Found", C_Found, fs_Found, false) : CRow) ∈ (CT C_Always C_Fails C_NoDrawing C_Found C_Model C_Paper C_Leaf C_Inverse C_Nothing C_Split) := by simp [CT]
theorem fe_Found_claims (ct : clsTB K (CT C_Always C_Fails C_NoDrawing C_Found C_Model C_Paper C_Leaf C_Inverse C_Nothing C_Split) = true) {x0 x1 x2 : D} {Kd : D → Nat → Prop} {X : XD → Nat → Prop} {n : Nat} : fldW K "claims" (.obj C_Found fs_Found [x0, x1, x2]) Kd X n = Kd x0 n := fld_row (p := (("Found", C_Found, fs_Found, false) : CRow)) ct row_Found (by simp) rfl
theorem fe_Found_answers (ct : clsTB K (CT C_Always C_Fails C_NoDrawing C_Found C_Model C_Paper C_Leaf C_Inverse C_Nothing C_Split) = true) {x0 x1 x2 : D} {Kd : D → Nat → Prop} {X : XD → Nat → Prop} {n : Nat} : fldW K "answers" (.obj C_Found fs_Found [x0, x1, x2]) Kd X n = Kd x1 n := fld_row (p := (("Found", C_Found, fs_Found, false) : CRow)) ct row_Found (by simp) rfl
theorem fe_Found_paper (ct : clsTB K (CT C_Always C_Fails C_NoDrawing C_Found C_Model C_Paper C_Leaf C_Inverse C_Nothing C_Split) = true) {x0 x1 x2 : D} {Kd : D → Nat → Prop} {X : XD → Nat → Prop} {n : Nat} : fldW K "paper" (.obj C_Found fs_Found [x0, x1, x2]) Kd X n = Kd x2 n := fld_row (p := (("Found", C_Found, fs_Found, false) : CRow)) ct row_Found (by simp) rfl
theorem row_Model : (("Model", C_Model, fs_Model, false) : CRow) ∈ (CT C_Always C_Fails C_NoDrawing C_Found C_Model C_Paper C_Leaf C_Inverse C_Nothing C_Split) := by simp [CT]
theorem fe_Model_steps (ct : clsTB K (CT C_Always C_Fails C_NoDrawing C_Found C_Model C_Paper C_Leaf C_Inverse C_Nothing C_Split) = true) {x0 x1 : D} {Kd : D → Nat → Prop} {X : XD → Nat → Prop} {n : Nat} : fldW K "steps" (.obj C_Model fs_Model [x0, x1]) Kd X n = Kd x0 n := fld_row (p := (("Model", C_Model, fs_Model, false) : CRow)) ct row_Model (by simp) rfl
theorem fe_Model_claims (ct : clsTB K (CT C_Always C_Fails C_NoDrawing C_Found C_Model C_Paper C_Leaf C_Inverse C_Nothing C_Split) = true) {x0 x1 : D} {Kd : D → Nat → Prop} {X : XD → Nat → Prop} {n : Nat} : fldW K "claims" (.obj C_Model fs_Model [x0, x1]) Kd X n = Kd x1 n := fld_row (p := (("Model", C_Model, fs_Model, false) : CRow)) ct row_Model (by simp) rfl
theorem row_Paper : (("Paper", C_Paper, fs_Paper, false) : CRow) ∈ (CT C_Always C_Fails C_NoDrawing C_Found C_Model C_Paper C_Leaf C_Inverse C_Nothing C_Split) := by simp [CT]
theorem fe_Paper_unless (ct : clsTB K (CT C_Always C_Fails C_NoDrawing C_Found C_Model C_Paper C_Leaf C_Inverse C_Nothing C_Split) = true) {x0 x1 x2 x3 : D} {Kd : D → Nat → Prop} {X : XD → Nat → Prop} {n : Nat} : fldW K "unless" (.obj C_Paper fs_Paper [x0, x1, x2, x3]) Kd X n = Kd x0 n := fld_row (p := (("Paper", C_Paper, fs_Paper, false) : CRow)) ct row_Paper (by simp) rfl
theorem fe_Paper_shares (ct : clsTB K (CT C_Always C_Fails C_NoDrawing C_Found C_Model C_Paper C_Leaf C_Inverse C_Nothing C_Split) = true) {x0 x1 x2 x3 : D} {Kd : D → Nat → Prop} {X : XD → Nat → Prop} {n : Nat} : fldW K "shares" (.obj C_Paper fs_Paper [x0, x1, x2, x3]) Kd X n = Kd x1 n := fld_row (p := (("Paper", C_Paper, fs_Paper, false) : CRow)) ct row_Paper (by simp) rfl
theorem fe_Paper_leaves (ct : clsTB K (CT C_Always C_Fails C_NoDrawing C_Found C_Model C_Paper C_Leaf C_Inverse C_Nothing C_Split) = true) {x0 x1 x2 x3 : D} {Kd : D → Nat → Prop} {X : XD → Nat → Prop} {n : Nat} : fldW K "leaves" (.obj C_Paper fs_Paper [x0, x1, x2, x3]) Kd X n = Kd x2 n := fld_row (p := (("Paper", C_Paper, fs_Paper, false) : CRow)) ct row_Paper (by simp) rfl
theorem fe_Paper_numbers (ct : clsTB K (CT C_Always C_Fails C_NoDrawing C_Found C_Model C_Paper C_Leaf C_Inverse C_Nothing C_Split) = true) {x0 x1 x2 x3 : D} {Kd : D → Nat → Prop} {X : XD → Nat → Prop} {n : Nat} : fldW K "numbers" (.obj C_Paper fs_Paper [x0, x1, x2, x3]) Kd X n = Kd x3 n := fld_row (p := (("Paper", C_Paper, fs_Paper, false) : CRow)) ct row_Paper (by simp) rfl
theorem row_Leaf : (("Leaf", C_Leaf, fs_Leaf, false) : CRow) ∈ (CT C_Always C_Fails C_NoDrawing C_Found C_Model C_Paper C_Leaf C_Inverse C_Nothing C_Split) := by simp [CT]
theorem fe_Leaf_choices (ct : clsTB K (CT C_Always C_Fails C_NoDrawing C_Found C_Model C_Paper C_Leaf C_Inverse C_Nothing C_Split) = true) {x0 x1 x2 x3 x4 : D} {Kd : D → Nat → Prop} {X : XD → Nat → Prop} {n : Nat} : fldW K "choices" (.obj C_Leaf fs_Leaf [x0, x1, x2, x3, x4]) Kd X n = Kd x0 n := fld_row (p := (("Leaf", C_Leaf, fs_Leaf, false) : CRow)) ct row_Leaf (by simp) rfl
theorem fe_Leaf_tower (ct : clsTB K (CT C_Always C_Fails C_NoDrawing C_Found C_Model C_Paper C_Leaf C_Inverse C_Nothing C_Split) = true) {x0 x1 x2 x3 x4 : D} {Kd : D → Nat → Prop} {X : XD → Nat → Prop} {n : Nat} : fldW K "tower" (.obj C_Leaf fs_Leaf [x0, x1, x2, x3, x4]) Kd X n = Kd x1 n := fld_row (p := (("Leaf", C_Leaf, fs_Leaf, false) : CRow)) ct row_Leaf (by simp) rfl
theorem fe_Leaf_places (ct : clsTB K (CT C_Always C_Fails C_NoDrawing C_Found C_Model C_Paper C_Leaf C_Inverse C_Nothing C_Split) = true) {x0 x1 x2 x3 x4 : D} {Kd : D → Nat → Prop} {X : XD → Nat → Prop} {n : Nat} : fldW K "places" (.obj C_Leaf fs_Leaf [x0, x1, x2, x3, x4]) Kd X n = Kd x2 n := fld_row (p := (("Leaf", C_Leaf, fs_Leaf, false) : CRow)) ct row_Leaf (by simp) rfl
theorem fe_Leaf_inverses (ct : clsTB K (CT C_Always C_Fails C_NoDrawing C_Found C_Model C_Paper C_Leaf C_Inverse C_Nothing C_Split) = true) {x0 x1 x2 x3 x4 : D} {Kd : D → Nat → Prop} {X : XD → Nat → Prop} {n : Nat} : fldW K "inverses" (.obj C_Leaf fs_Leaf [x0, x1, x2, x3, x4]) Kd X n = Kd x3 n := fld_row (p := (("Leaf", C_Leaf, fs_Leaf, false) : CRow)) ct row_Leaf (by simp) rfl
theorem fe_Leaf_void (ct : clsTB K (CT C_Always C_Fails C_NoDrawing C_Found C_Model C_Paper C_Leaf C_Inverse C_Nothing C_Split) = true) {x0 x1 x2 x3 x4 : D} {Kd : D → Nat → Prop} {X : XD → Nat → Prop} {n : Nat} : fldW K "void" (.obj C_Leaf fs_Leaf [x0, x1, x2, x3, x4]) Kd X n = Kd x4 n := fld_row (p := (("Leaf", C_Leaf, fs_Leaf, false) : CRow)) ct row_Leaf (by simp) rfl
theorem row_Inverse : (("Inverse", C_Inverse, fs_Inverse, false) : CRow) ∈ (CT C_Always C_Fails C_NoDrawing C_Found C_Model C_Paper C_Leaf C_Inverse C_Nothing C_Split) := by simp [CT]
theorem fe_Inverse_number (ct : clsTB K (CT C_Always C_Fails C_NoDrawing C_Found C_Model C_Paper C_Leaf C_Inverse C_Nothing C_Split) = true) {x0 : D} {Kd : D → Nat → Prop} {X : XD → Nat → Prop} {n : Nat} : fldW K "number" (.obj C_Inverse fs_Inverse [x0]) Kd X n = Kd x0 n := fld_row (p := (("Inverse", C_Inverse, fs_Inverse, false) : CRow)) ct row_Inverse (by simp) rfl
theorem row_Nothing : (("Nothing", C_Nothing, fs_Nothing, false) : CRow) ∈ (CT C_Always C_Fails C_NoDrawing C_Found C_Model C_Paper C_Leaf C_Inverse C_Nothing C_Split) := by simp [CT]
theorem row_Split : (("Split", C_Split, fs_Split, false) : CRow) ∈ (CT C_Always C_Fails C_NoDrawing C_Found C_Model C_Paper C_Leaf C_Inverse C_Nothing C_Split) := by simp [CT]
theorem fe_Split_level (ct : clsTB K (CT C_Always C_Fails C_NoDrawing C_Found C_Model C_Paper C_Leaf C_Inverse C_Nothing C_Split) = true) {x0 x1 : D} {Kd : D → Nat → Prop} {X : XD → Nat → Prop} {n : Nat} : fldW K "level" (.obj C_Split fs_Split [x0, x1]) Kd X n = Kd x0 n := fld_row (p := (("Split", C_Split, fs_Split, false) : CRow)) ct row_Split (by simp) rfl
theorem fe_Split_r (ct : clsTB K (CT C_Always C_Fails C_NoDrawing C_Found C_Model C_Paper C_Leaf C_Inverse C_Nothing C_Split) = true) {x0 x1 : D} {Kd : D → Nat → Prop} {X : XD → Nat → Prop} {n : Nat} : fldW K "r" (.obj C_Split fs_Split [x0, x1]) Kd X n = Kd x1 n := fld_row (p := (("Split", C_Split, fs_Split, false) : CRow)) ct row_Split (by simp) rfl

theorem ok_copied  (F : DefF K mg "copied" s_copied ["value"]) (m_list : mg "list" = none) (m_isinstance : mg "isinstance" = none) (m_tuple : mg "tuple" = none) : DefG P w K mg base "copied" ["value"] (0 + 1) wCopied := by
  refine def_ok (k := 0) F sc_copied (fun f cdv A outer s H E hg hr => (DSs.one (DS.ret (DE.ifExp (DT.val (DE.isi1 (fun _ => rfl) (fun _ => pe_bltn (v := .ty "list") (by rfl) m_list (by decide +kernel) rfl) (.ty "list") (fun _ => by rfl) (fun _ => m_isinstance) (DE.var fun _ => pv 0))) (DE.opL (fun _ _ ha => pe_callTy call_tuple_of (by rfl) m_tuple (by decide +kernel) ha) sem_tuple (DA.cons (DE.var fun _ => pv 0) DA.nil)) (DE.var fun _ => pv 0))))) fun ds Kd Kx n hl h => ?_
  obtain ⟨d, rfl, hb, hk⟩ := h
  rw [s_body, s_onE]
  simp only [w_bind, w_pure, w_calm, g_0, g_s, List.map_cons, List.map_nil, List.cons_append, isi_list hb]
  cases d <;> exact hk


theorem ok_model_key  (F : DefF K mg "model_key" s_model_key ["model"]) (ct : clsTB K (CT C_Always C_Fails C_NoDrawing C_Found C_Model C_Paper C_Leaf C_Inverse C_Nothing C_Split) = true) : DefG P w K mg base "model_key" ["model"] (0 + 1) (w_key C_Model fs_Model) := by
  refine def_ok (k := 0) F sc_model_key (fun f cdv A outer s H E hg hr => (DSs.one (DS.ret (DE.tup (DA.cons (DE.fld (fun _ => rfl) (DE.var fun _ => pv 0)) (DA.cons (DE.fld (fun _ => rfl) (DE.var fun _ => pv 0)) DA.nil)))))) fun ds Kd Kx n hl h => ?_
  obtain ⟨xs, rfl, hx, hk⟩ := h
  match xs, hx, hk with
  | [x0, x1], _, hk =>
  rw [s_body, s_onE]
  simp only [w_bind, w_pure, w_calm, w_need, g_0, g_s, List.map_cons, List.map_nil, List.cons_append, fe_Model_steps ct, fe_Model_claims ct]
  exact ⟨fits_small (by simp), hk⟩


theorem ok_leaf_key  (F : DefF K mg "leaf_key" s_leaf_key ["leaf"]) (ct : clsTB K (CT C_Always C_Fails C_NoDrawing C_Found C_Model C_Paper C_Leaf C_Inverse C_Nothing C_Split) = true) : DefG P w K mg base "leaf_key" ["leaf"] (0 + 1) (w_key C_Leaf fs_Leaf) := by
  refine def_ok (k := 0) F sc_leaf_key (fun f cdv A outer s H E hg hr => (DSs.one (DS.ret (DE.tup (DA.cons (DE.fld (fun _ => rfl) (DE.var fun _ => pv 0)) (DA.cons (DE.fld (fun _ => rfl) (DE.var fun _ => pv 0)) (DA.cons (DE.fld (fun _ => rfl) (DE.var fun _ => pv 0)) (DA.cons (DE.fld (fun _ => rfl) (DE.var fun _ => pv 0)) (DA.cons (DE.fld (fun _ => rfl) (DE.var fun _ => pv 0)) DA.nil))))))))) fun ds Kd Kx n hl h => ?_
  obtain ⟨xs, rfl, hx, hk⟩ := h
  match xs, hx, hk with
  | [x0, x1, x2, x3, x4], _, hk =>
  rw [s_body, s_onE]
  simp only [w_bind, w_pure, w_calm, w_need, g_0, g_s, List.map_cons, List.map_nil, List.cons_append, fe_Leaf_choices ct, fe_Leaf_tower ct, fe_Leaf_places ct, fe_Leaf_inverses ct, fe_Leaf_void ct]
  exact ⟨fits_small (by simp), hk⟩


theorem ok_paper_key  (F : DefF K mg "paper_key" s_paper_key ["paper"]) (ct : clsTB K (CT C_Always C_Fails C_NoDrawing C_Found C_Model C_Paper C_Leaf C_Inverse C_Nothing C_Split) = true) : DefG P w K mg base "paper_key" ["paper"] (0 + 1) (w_key C_Paper fs_Paper) := by
  refine def_ok (k := 0) F sc_paper_key (fun f cdv A outer s H E hg hr => (DSs.one (DS.ret (DE.tup (DA.cons (DE.fld (fun _ => rfl) (DE.var fun _ => pv 0)) (DA.cons (DE.fld (fun _ => rfl) (DE.var fun _ => pv 0)) (DA.cons (DE.fld (fun _ => rfl) (DE.var fun _ => pv 0)) (DA.cons (DE.fld (fun _ => rfl) (DE.var fun _ => pv 0)) DA.nil)))))))) fun ds Kd Kx n hl h => ?_
  obtain ⟨xs, rfl, hx, hk⟩ := h
  match xs, hx, hk with
  | [x0, x1, x2, x3], _, hk =>
  rw [s_body, s_onE]
  simp only [w_bind, w_pure, w_calm, w_need, g_0, g_s, List.map_cons, List.map_nil, List.cons_append, fe_Paper_unless ct, fe_Paper_shares ct, fe_Paper_leaves ct, fe_Paper_numbers ct]
  exact ⟨fits_small (by simp), hk⟩

abbrev s_Always__init__ : Stmt := clsDef 0 (topS 3)
theorem sc_Always__init__ : FnScope ["self", "unless"] ["self", "unless"] (defScope s_Always__init__) := ⟨rfl, rfl, rfl, by decide +kernel, rfl, by decide +kernel, by decide +kernel⟩
theorem ctor_Always (I_Always : InitF K mg "Always" "Always.__init__" s_Always__init__ C_Always fs_Always false ["self", "unless"]) (ct : clsTB K (CT C_Always C_Fails C_NoDrawing C_Found C_Model C_Paper C_Leaf C_Inverse C_Nothing C_Split) = true) (h_copied : DefG P w K mg base "copied" ["value"] 1 wCopied) : CtorG P w K mg base "Always" C_Always fs_Always false 2 := by
  obtain ⟨f_copied, d_copied, G_copied, n_copied, q_copied, b_copied⟩ := h_copied.ex
  refine ctorG_of I_Always rfl fun fi fd F => fn_okI (k := 1) F sc_Always__init__ rfl (fun cdv A outer s H E hg hr => (DSs.one (DS.setF (k := 0) (fun _ => rfl) (fun _ => pv 0) (DE.call (fun _ => G_copied) (fun _ => hg) (fun _ => hr.mono (by omega)) (fun _ => takes_of rfl rfl rfl rfl) (fun _ => by rfl) (fun _ => n_copied) (fun _ => q_copied) (fun _ => b_copied) (DA.cons (DE.var fun _ => pv 1) DA.nil))))) fun x ds Kd Kx n hl h => ?_
  obtain ⟨hb, hk⟩ := h
  match ds, hl, hb, hk with
  | [d0], _, hb, hk =>
  have c := clsTB_at ct row_Always
  dsimp only at c
  have b_d0 : baseD d0 = true := hb d0 (by simp)
  clear hb
  unfold bodyI
  refine setF_at (at0 := some x) (C := C_Always) rfl c.1.cl (c.2.1 "unless" (by simp)) (by simp) ?_
  simp only [w_bind, w_pure, w_need, w_calm, g_0, g_s]
  refine ⟨rfl, d0, rfl, b_d0, ?_⟩
  simp only [List.set_cons_zero, putNs, putDs, List.map_cons, List.map_nil, List.cons_append, List.nil_append]
  exact ⟨rfl, hk⟩

abbrev s_Always__eq__ : Stmt := clsDef 1 (topS 3)
theorem sc_Always__eq__ : FnScope ["self", "other"] ["self", "other"] (defScope s_Always__eq__) := ⟨rfl, rfl, rfl, by decide +kernel, rfl, by decide +kernel, by decide +kernel⟩
theorem eqo_Always (ME_Always : MethF K "__eq__" "Always.__eq__" s_Always__eq__ C_Always ["self", "other"]) (ct : clsTB K (CT C_Always C_Fails C_NoDrawing C_Found C_Model C_Paper C_Leaf C_Inverse C_Nothing C_Split) = true) (mC_Always : mg "Always" = some (.ref C_Always)) (m_isinstance : mg "isinstance" = none) : EqG P w K mg base C_Always "__eq__" 2 (wEqO (CT C_Always C_Fails C_NoDrawing C_Found C_Model C_Paper C_Leaf C_Inverse C_Nothing C_Split) (("Always", C_Always, fs_Always, true) : CRow)) := by
  refine eqG_of ME_Always rfl fun f fd F => fn_ok (k := 1) F sc_Always__eq__ (fun cdv A outer s H E hg hr => (DSs.one (DS.ret (DE.and (DE.isi1 (fun _ => rfl) (fun _ => pe_glob (v := .ref C_Always) (by rfl) mC_Always rfl) (.own C_Always) (fun _ => by rfl) (fun _ => m_isinstance) (DE.var fun _ => pv 1)) (DE.one (DE.cmp (fun _ => (op_eqU (k := 0) (T := fun _ _ => False) (fun _ _ h => h.elim) hg (hr.mono (by omega)))) sem_eqU (DE.fld (fun _ => rfl) (DE.var fun _ => pv 0)) (DE.fld (fun _ => rfl) (DE.var fun _ => pv 1)))))))) fun ds Kd Kx n hl h => ?_
  obtain ⟨q, xs, ys, rfl, hq, hlx, h⟩ := h
  have i1 : ∀ (Kd : D → Nat → Prop) (X : XD → Nat → Prop) (n : Nat), fIsi1 K (.ref C_Always) (.obj q.2.1 q.2.2.1 ys) Kd X n = Kd (.bl (decide (q.1 = "Always"))) n := fun Kd X n => isi_row ct hq row_Always
  rw [s_body, s_onE]
  simp only [w_bind, w_pure, w_calm, g_0, g_s, List.map_cons, List.map_nil, List.cons_append, i1]
  rcases h with ⟨hne, hk⟩ | ⟨rfl, hly, h⟩
  · simp only [hne, decide_false]
    exact hk
  · dsimp only at hlx hly h ⊢
    match xs, ys, hlx, hly, h with
    | [x0], [y0], _, _, h =>
    simp only [decide_true, w_bind, w_pure, w_calm, w_need, fe_Always_unless ct]
    rcases h with ⟨e, hn, hk⟩ | ⟨h1, h2, hk⟩
    · cases e; exact .inr (.inl ⟨rfl, hn, hk⟩)
    · exact .inl (fEq_data h1 h2 hk)
abbrev s_Always__ne__ : Stmt := clsDef 2 (topS 3)
theorem sc_Always__ne__ : FnScope ["self", "other"] ["self", "other"] (defScope s_Always__ne__) := ⟨rfl, rfl, rfl, by decide +kernel, rfl, by decide +kernel, by decide +kernel⟩
theorem neo_Always (MN_Always : MethF K "__ne__" "Always.__ne__" s_Always__ne__ C_Always ["self", "other"]) (ct : clsTB K (CT C_Always C_Fails C_NoDrawing C_Found C_Model C_Paper C_Leaf C_Inverse C_Nothing C_Split) = true) (E_Always : EqG P w K mg base C_Always "__eq__" 2 (wEqO (CT C_Always C_Fails C_NoDrawing C_Found C_Model C_Paper C_Leaf C_Inverse C_Nothing C_Split) (("Always", C_Always, fs_Always, true) : CRow))) : EqG P w K mg base C_Always "__ne__" 3 (wNeO (CT C_Always C_Fails C_NoDrawing C_Found C_Model C_Paper C_Leaf C_Inverse C_Nothing C_Split) (("Always", C_Always, fs_Always, true) : CRow)) := by
  have hE : ∀ C wf, TEqO (CT C_Always C_Fails C_NoDrawing C_Found C_Model C_Paper C_Leaf C_Inverse C_Nothing C_Split) [(("Always", C_Always, fs_Always, true) : CRow)] C wf → EqG P w K mg base C "__eq__" 2 wf := fun C wf ⟨r, hr, e1, e2⟩ => by cases List.mem_singleton.mp hr; subst e1 e2; exact E_Always
  refine eqG_of MN_Always rfl fun f fd F => fn_ok (k := 2) F sc_Always__ne__ (fun cdv A outer s H E hg hr => (DSs.one (DS.ret (DE.not (DE.cmp (fun _ => (op_eqU (k := 2) hE hg (hr.mono (by omega)))) sem_eqU (DE.var fun _ => pv 0) (DE.var fun _ => pv 1)))))) fun ds Kd Kx n hl h => ?_
  have h' : wNeO (CT C_Always C_Fails C_NoDrawing C_Found C_Model C_Paper C_Leaf C_Inverse C_Nothing C_Split) (("Always", C_Always, fs_Always, true) : CRow) ds Kd Kx n := h
  obtain ⟨q, xs, ys, rfl, _, _, _⟩ := h
  rw [s_body, s_onE]
  simp only [w_bind, w_pure, w_calm, g_0, g_s, List.map_cons, List.map_nil, List.cons_append]
  refine eq_own ct (List.mem_singleton.mpr rfl) row_Always (wEqO.imp h' fun b k => ?_)
  exact k
abbrev s_Fails__init__ : Stmt := clsDef 0 (topS 4)
theorem sc_Fails__init__ : FnScope ["self", "row", "leaf"] ["self", "row", "leaf"] (defScope s_Fails__init__) := ⟨rfl, rfl, rfl, by decide +kernel, rfl, by decide +kernel, by decide +kernel⟩
theorem ctor_Fails (I_Fails : InitF K mg "Fails" "Fails.__init__" s_Fails__init__ C_Fails fs_Fails true ["self", "row", "leaf"]) (ct : clsTB K (CT C_Always C_Fails C_NoDrawing C_Found C_Model C_Paper C_Leaf C_Inverse C_Nothing C_Split) = true) (h_copied : DefG P w K mg base "copied" ["value"] 1 wCopied) : CtorG P w K mg base "Fails" C_Fails fs_Fails true 2 := by
  obtain ⟨f_copied, d_copied, G_copied, n_copied, q_copied, b_copied⟩ := h_copied.ex
  refine ctorG_of I_Fails rfl fun fi fd F => fn_okI (k := 1) F sc_Fails__init__ rfl (fun cdv A outer s H E hg hr => (DSs.cons (DS.setF (k := 0) (fun _ => rfl) (fun _ => pv 0) (DE.call (fun _ => G_copied) (fun _ => hg) (fun _ => hr.mono (by omega)) (fun _ => takes_of rfl rfl rfl rfl) (fun _ => by rfl) (fun _ => n_copied) (fun _ => q_copied) (fun _ => b_copied) (DA.cons (DE.var fun _ => pv 1) DA.nil)))
    (DSs.one (DS.setF (k := 0) (fun _ => rfl) (fun _ => pv 0) (DE.call (fun _ => G_copied) (fun _ => hg) (fun _ => hr.mono (by omega)) (fun _ => takes_of rfl rfl rfl rfl) (fun _ => by rfl) (fun _ => n_copied) (fun _ => q_copied) (fun _ => b_copied) (DA.cons (DE.var fun _ => pv 2) DA.nil)))))) fun x ds Kd Kx n hl h => ?_
  obtain ⟨hb, hk⟩ := h
  match ds, hl, hb, hk with
  | [d0, d1], _, hb, hk =>
  have c := clsTB_at ct row_Fails
  dsimp only at c
  have b_d0 : baseD d0 = true := hb d0 (by simp)
  have b_d1 : baseD d1 = true := hb d1 (by simp)
  clear hb
  unfold bodyI
  rw [s_seq]
  refine setF_at (at0 := some x) (C := C_Fails) rfl c.1.cl (c.2.1 "row" (by simp)) (by simp) ?_
  simp only [w_bind, w_pure, w_need, w_calm, g_0, g_s]
  refine ⟨rfl, d0, rfl, b_d0, ?_⟩
  simp only [List.set_cons_zero, putNs, putDs, List.map_cons, List.map_nil, List.cons_append, List.nil_append]
  refine setF_at (at0 := some x) (C := C_Fails) rfl c.1.cl (c.2.1 "leaf" (by simp)) (by simp) ?_
  simp only [w_bind, w_pure, w_need, w_calm, g_0, g_s]
  refine ⟨rfl, d1, rfl, b_d1, ?_⟩
  simp only [show putNs "leaf" (["row"] : List Str) = (["row", "leaf"] : List Str) from rfl, show ∀ e : D, putDs "leaf" e (["row"] : List Str) [cpy d0] = [cpy d0, e] from fun _ => rfl, List.set_cons_zero]
  exact ⟨rfl, hk⟩

abbrev s_Fails__eq__ : Stmt := clsDef 1 (topS 4)
theorem sc_Fails__eq__ : FnScope ["self", "other"] ["self", "other"] (defScope s_Fails__eq__) := ⟨rfl, rfl, rfl, by decide +kernel, rfl, by decide +kernel, by decide +kernel⟩
theorem eqo_Fails (ME_Fails : MethF K "__eq__" "Fails.__eq__" s_Fails__eq__ C_Fails ["self", "other"]) (ct : clsTB K (CT C_Always C_Fails C_NoDrawing C_Found C_Model C_Paper C_Leaf C_Inverse C_Nothing C_Split) = true) (mC_Fails : mg "Fails" = some (.ref C_Fails)) (m_isinstance : mg "isinstance" = none) : EqG P w K mg base C_Fails "__eq__" 2 (wEqO (CT C_Always C_Fails C_NoDrawing C_Found C_Model C_Paper C_Leaf C_Inverse C_Nothing C_Split) (("Fails", C_Fails, fs_Fails, false) : CRow)) := by
  refine eqG_of ME_Fails rfl fun f fd F => fn_ok (k := 1) F sc_Fails__eq__ (fun cdv A outer s H E hg hr => (DSs.one (DS.ret (DE.and (DE.isi1 (fun _ => rfl) (fun _ => pe_glob (v := .ref C_Fails) (by rfl) mC_Fails rfl) (.own C_Fails) (fun _ => by rfl) (fun _ => m_isinstance) (DE.var fun _ => pv 1)) (DE.one (DE.cmp (fun _ => (op_eqU (k := 0) (T := fun _ _ => False) (fun _ _ h => h.elim) hg (hr.mono (by omega)))) sem_eqU (DE.tup (DA.cons (DE.fld (fun _ => rfl) (DE.var fun _ => pv 0)) (DA.cons (DE.fld (fun _ => rfl) (DE.var fun _ => pv 0)) DA.nil))) (DE.tup (DA.cons (DE.fld (fun _ => rfl) (DE.var fun _ => pv 1)) (DA.cons (DE.fld (fun _ => rfl) (DE.var fun _ => pv 1)) DA.nil))))))))) fun ds Kd Kx n hl h => ?_
  obtain ⟨q, xs, ys, rfl, hq, hlx, h⟩ := h
  have i1 : ∀ (Kd : D → Nat → Prop) (X : XD → Nat → Prop) (n : Nat), fIsi1 K (.ref C_Fails) (.obj q.2.1 q.2.2.1 ys) Kd X n = Kd (.bl (decide (q.1 = "Fails"))) n := fun Kd X n => isi_row ct hq row_Fails
  rw [s_body, s_onE]
  simp only [w_bind, w_pure, w_calm, g_0, g_s, List.map_cons, List.map_nil, List.cons_append, i1]
  rcases h with ⟨hne, hk⟩ | ⟨rfl, hly, h⟩
  · simp only [hne, decide_false]
    exact hk
  · dsimp only at hlx hly h ⊢
    match xs, ys, hlx, hly, h with
    | [x0, x1], [y0, y1], _, _, h =>
    simp only [decide_true, w_bind, w_pure, w_calm, w_need, fe_Fails_row ct, fe_Fails_leaf ct]
    refine ⟨fits_small (by simp), fits_small (by simp), ?_⟩
    rcases h with ⟨e, hn, hk⟩ | ⟨h1, h2, hk⟩
    · cases e; exact .inr (.inl ⟨rfl, hn, hk⟩)
    · exact .inl (fEq_data h1 h2 hk)
abbrev s_Fails__ne__ : Stmt := clsDef 2 (topS 4)
theorem sc_Fails__ne__ : FnScope ["self", "other"] ["self", "other"] (defScope s_Fails__ne__) := ⟨rfl, rfl, rfl, by decide +kernel, rfl, by decide +kernel, by decide +kernel⟩
theorem neo_Fails (MN_Fails : MethF K "__ne__" "Fails.__ne__" s_Fails__ne__ C_Fails ["self", "other"]) (ct : clsTB K (CT C_Always C_Fails C_NoDrawing C_Found C_Model C_Paper C_Leaf C_Inverse C_Nothing C_Split) = true) (E_Fails : EqG P w K mg base C_Fails "__eq__" 2 (wEqO (CT C_Always C_Fails C_NoDrawing C_Found C_Model C_Paper C_Leaf C_Inverse C_Nothing C_Split) (("Fails", C_Fails, fs_Fails, false) : CRow))) : EqG P w K mg base C_Fails "__ne__" 3 (wNeO (CT C_Always C_Fails C_NoDrawing C_Found C_Model C_Paper C_Leaf C_Inverse C_Nothing C_Split) (("Fails", C_Fails, fs_Fails, false) : CRow)) := by
  have hE : ∀ C wf, TEqO (CT C_Always C_Fails C_NoDrawing C_Found C_Model C_Paper C_Leaf C_Inverse C_Nothing C_Split) [(("Fails", C_Fails, fs_Fails, false) : CRow)] C wf → EqG P w K mg base C "__eq__" 2 wf := fun C wf ⟨r, hr, e1, e2⟩ => by cases List.mem_singleton.mp hr; subst e1 e2; exact E_Fails
  refine eqG_of MN_Fails rfl fun f fd F => fn_ok (k := 2) F sc_Fails__ne__ (fun cdv A outer s H E hg hr => (DSs.one (DS.ret (DE.not (DE.cmp (fun _ => (op_eqU (k := 2) hE hg (hr.mono (by omega)))) sem_eqU (DE.var fun _ => pv 0) (DE.var fun _ => pv 1)))))) fun ds Kd Kx n hl h => ?_
  have h' : wNeO (CT C_Always C_Fails C_NoDrawing C_Found C_Model C_Paper C_Leaf C_Inverse C_Nothing C_Split) (("Fails", C_Fails, fs_Fails, false) : CRow) ds Kd Kx n := h
  obtain ⟨q, xs, ys, rfl, _, _, _⟩ := h
  rw [s_body, s_onE]
  simp only [w_bind, w_pure, w_calm, g_0, g_s, List.map_cons, List.map_nil, List.cons_append]
  refine eq_own ct (List.mem_singleton.mpr rfl) row_Fails (wEqO.imp h' fun b k => ?_)
  exact k
abbrev s_NoDrawing__init__ : Stmt := clsDef 0 (topS 5)
theorem sc_NoDrawing__init__ : FnScope ["self", "step"] ["self", "step"] (defScope s_NoDrawing__init__) := ⟨rfl, rfl, rfl, by decide +kernel, rfl, by decide +kernel, by decide +kernel⟩
theorem ctor_NoDrawing (I_NoDrawing : InitF K mg "NoDrawing" "NoDrawing.__init__" s_NoDrawing__init__ C_NoDrawing fs_NoDrawing false ["self", "step"]) (ct : clsTB K (CT C_Always C_Fails C_NoDrawing C_Found C_Model C_Paper C_Leaf C_Inverse C_Nothing C_Split) = true) (h_copied : DefG P w K mg base "copied" ["value"] 1 wCopied) : CtorG P w K mg base "NoDrawing" C_NoDrawing fs_NoDrawing false 2 := by
  obtain ⟨f_copied, d_copied, G_copied, n_copied, q_copied, b_copied⟩ := h_copied.ex
  refine ctorG_of I_NoDrawing rfl fun fi fd F => fn_okI (k := 1) F sc_NoDrawing__init__ rfl (fun cdv A outer s H E hg hr => (DSs.one (DS.setF (k := 0) (fun _ => rfl) (fun _ => pv 0) (DE.call (fun _ => G_copied) (fun _ => hg) (fun _ => hr.mono (by omega)) (fun _ => takes_of rfl rfl rfl rfl) (fun _ => by rfl) (fun _ => n_copied) (fun _ => q_copied) (fun _ => b_copied) (DA.cons (DE.var fun _ => pv 1) DA.nil))))) fun x ds Kd Kx n hl h => ?_
  obtain ⟨hb, hk⟩ := h
  match ds, hl, hb, hk with
  | [d0], _, hb, hk =>
  have c := clsTB_at ct row_NoDrawing
  dsimp only at c
  have b_d0 : baseD d0 = true := hb d0 (by simp)
  clear hb
  unfold bodyI
  refine setF_at (at0 := some x) (C := C_NoDrawing) rfl c.1.cl (c.2.1 "step" (by simp)) (by simp) ?_
  simp only [w_bind, w_pure, w_need, w_calm, g_0, g_s]
  refine ⟨rfl, d0, rfl, b_d0, ?_⟩
  simp only [List.set_cons_zero, putNs, putDs, List.map_cons, List.map_nil, List.cons_append, List.nil_append]
  exact ⟨rfl, hk⟩

abbrev s_NoDrawing__eq__ : Stmt := clsDef 1 (topS 5)
theorem sc_NoDrawing__eq__ : FnScope ["self", "other"] ["self", "other"] (defScope s_NoDrawing__eq__) := ⟨rfl, rfl, rfl, by decide +kernel, rfl, by decide +kernel, by decide +kernel⟩
theorem eqo_NoDrawing (ME_NoDrawing : MethF K "__eq__" "NoDrawing.__eq__" s_NoDrawing__eq__ C_NoDrawing ["self", "other"]) (ct : clsTB K (CT C_Always C_Fails C_NoDrawing C_Found C_Model C_Paper C_Leaf C_Inverse C_Nothing C_Split) = true) (mC_NoDrawing : mg "NoDrawing" = some (.ref C_NoDrawing)) (m_isinstance : mg "isinstance" = none) : EqG P w K mg base C_NoDrawing "__eq__" 2 (wEqO (CT C_Always C_Fails C_NoDrawing C_Found C_Model C_Paper C_Leaf C_Inverse C_Nothing C_Split) (("NoDrawing", C_NoDrawing, fs_NoDrawing, true) : CRow)) := by
  refine eqG_of ME_NoDrawing rfl fun f fd F => fn_ok (k := 1) F sc_NoDrawing__eq__ (fun cdv A outer s H E hg hr => (DSs.one (DS.ret (DE.and (DE.isi1 (fun _ => rfl) (fun _ => pe_glob (v := .ref C_NoDrawing) (by rfl) mC_NoDrawing rfl) (.own C_NoDrawing) (fun _ => by rfl) (fun _ => m_isinstance) (DE.var fun _ => pv 1)) (DE.one (DE.cmp (fun _ => (op_eqU (k := 0) (T := fun _ _ => False) (fun _ _ h => h.elim) hg (hr.mono (by omega)))) sem_eqU (DE.fld (fun _ => rfl) (DE.var fun _ => pv 0)) (DE.fld (fun _ => rfl) (DE.var fun _ => pv 1)))))))) fun ds Kd Kx n hl h => ?_
  obtain ⟨q, xs, ys, rfl, hq, hlx, h⟩ := h
  have i1 : ∀ (Kd : D → Nat → Prop) (X : XD → Nat → Prop) (n : Nat), fIsi1 K (.ref C_NoDrawing) (.obj q.2.1 q.2.2.1 ys) Kd X n = Kd (.bl (decide (q.1 = "NoDrawing"))) n := fun Kd X n => isi_row ct hq row_NoDrawing
  rw [s_body, s_onE]
  simp only [w_bind, w_pure, w_calm, g_0, g_s, List.map_cons, List.map_nil, List.cons_append, i1]
  rcases h with ⟨hne, hk⟩ | ⟨rfl, hly, h⟩
  · simp only [hne, decide_false]
    exact hk
  · dsimp only at hlx hly h ⊢
    match xs, ys, hlx, hly, h with
    | [x0], [y0], _, _, h =>
    simp only [decide_true, w_bind, w_pure, w_calm, w_need, fe_NoDrawing_step ct]
    rcases h with ⟨e, hn, hk⟩ | ⟨h1, h2, hk⟩
    · cases e; exact .inr (.inl ⟨rfl, hn, hk⟩)
    · exact .inl (fEq_data h1 h2 hk)
abbrev s_NoDrawing__ne__ : Stmt := clsDef 2 (topS 5)
theorem sc_NoDrawing__ne__ : FnScope ["self", "other"] ["self", "other"] (defScope s_NoDrawing__ne__) := ⟨rfl, rfl, rfl, by decide +kernel, rfl, by decide +kernel, by decide +kernel⟩
theorem neo_NoDrawing (MN_NoDrawing : MethF K "__ne__" "NoDrawing.__ne__" s_NoDrawing__ne__ C_NoDrawing ["self", "other"]) (ct : clsTB K (CT C_Always C_Fails C_NoDrawing C_Found C_Model C_Paper C_Leaf C_Inverse C_Nothing C_Split) = true) (E_NoDrawing : EqG P w K mg base C_NoDrawing "__eq__" 2 (wEqO (CT C_Always C_Fails C_NoDrawing C_Found C_Model C_Paper C_Leaf C_Inverse C_Nothing C_Split) (("NoDrawing", C_NoDrawing, fs_NoDrawing, true) : CRow))) : EqG P w K mg base C_NoDrawing "__ne__" 3 (wNeO (CT C_Always C_Fails C_NoDrawing C_Found C_Model C_Paper C_Leaf C_Inverse C_Nothing C_Split) (("NoDrawing", C_NoDrawing, fs_NoDrawing, true) : CRow)) := by
  have hE : ∀ C wf, TEqO (CT C_Always C_Fails C_NoDrawing C_Found C_Model C_Paper C_Leaf C_Inverse C_Nothing C_Split) [(("NoDrawing", C_NoDrawing, fs_NoDrawing, true) : CRow)] C wf → EqG P w K mg base C "__eq__" 2 wf := fun C wf ⟨r, hr, e1, e2⟩ => by cases List.mem_singleton.mp hr; subst e1 e2; exact E_NoDrawing
  refine eqG_of MN_NoDrawing rfl fun f fd F => fn_ok (k := 2) F sc_NoDrawing__ne__ (fun cdv A outer s H E hg hr => (DSs.one (DS.ret (DE.not (DE.cmp (fun _ => (op_eqU (k := 2) hE hg (hr.mono (by omega)))) sem_eqU (DE.var fun _ => pv 0) (DE.var fun _ => pv 1)))))) fun ds Kd Kx n hl h => ?_
  have h' : wNeO (CT C_Always C_Fails C_NoDrawing C_Found C_Model C_Paper C_Leaf C_Inverse C_Nothing C_Split) (("NoDrawing", C_NoDrawing, fs_NoDrawing, true) : CRow) ds Kd Kx n := h
  obtain ⟨q, xs, ys, rfl, _, _, _⟩ := h
  rw [s_body, s_onE]
  simp only [w_bind, w_pure, w_calm, g_0, g_s, List.map_cons, List.map_nil, List.cons_append]
  refine eq_own ct (List.mem_singleton.mpr rfl) row_NoDrawing (wEqO.imp h' fun b k => ?_)
  exact k
abbrev s_Found__init__ : Stmt := clsDef 0 (topS 20)
theorem sc_Found__init__ : FnScope ["self", "claims", "answers", "paper"] ["self", "claims", "answers", "paper"] (defScope s_Found__init__) := ⟨rfl, rfl, rfl, by decide +kernel, rfl, by decide +kernel, by decide +kernel⟩
theorem ctor_Found (I_Found : InitF K mg "Found" "Found.__init__" s_Found__init__ C_Found fs_Found false ["self", "claims", "answers", "paper"]) (ct : clsTB K (CT C_Always C_Fails C_NoDrawing C_Found C_Model C_Paper C_Leaf C_Inverse C_Nothing C_Split) = true) (h_copied : DefG P w K mg base "copied" ["value"] 1 wCopied) : CtorG P w K mg base "Found" C_Found fs_Found false 2 := by
  obtain ⟨f_copied, d_copied, G_copied, n_copied, q_copied, b_copied⟩ := h_copied.ex
  refine ctorG_of I_Found rfl fun fi fd F => fn_okI (k := 1) F sc_Found__init__ rfl (fun cdv A outer s H E hg hr => (DSs.cons (DS.setF (k := 0) (fun _ => rfl) (fun _ => pv 0) (DE.call (fun _ => G_copied) (fun _ => hg) (fun _ => hr.mono (by omega)) (fun _ => takes_of rfl rfl rfl rfl) (fun _ => by rfl) (fun _ => n_copied) (fun _ => q_copied) (fun _ => b_copied) (DA.cons (DE.var fun _ => pv 1) DA.nil)))
    (DSs.cons (DS.setF (k := 0) (fun _ => rfl) (fun _ => pv 0) (DE.call (fun _ => G_copied) (fun _ => hg) (fun _ => hr.mono (by omega)) (fun _ => takes_of rfl rfl rfl rfl) (fun _ => by rfl) (fun _ => n_copied) (fun _ => q_copied) (fun _ => b_copied) (DA.cons (DE.var fun _ => pv 2) DA.nil)))
    (DSs.one (DS.setF (k := 0) (fun _ => rfl) (fun _ => pv 0) (DE.call (fun _ => G_copied) (fun _ => hg) (fun _ => hr.mono (by omega)) (fun _ => takes_of rfl rfl rfl rfl) (fun _ => by rfl) (fun _ => n_copied) (fun _ => q_copied) (fun _ => b_copied) (DA.cons (DE.var fun _ => pv 3) DA.nil))))))) fun x ds Kd Kx n hl h => ?_
  obtain ⟨hb, hk⟩ := h
  match ds, hl, hb, hk with
  | [d0, d1, d2], _, hb, hk =>
  have c := clsTB_at ct row_Found
  dsimp only at c
  have b_d0 : baseD d0 = true := hb d0 (by simp)
  have b_d1 : baseD d1 = true := hb d1 (by simp)
  have b_d2 : baseD d2 = true := hb d2 (by simp)
  clear hb
  unfold bodyI
  rw [s_seq]
  refine setF_at (at0 := some x) (C := C_Found) rfl c.1.cl (c.2.1 "claims" (by simp)) (by simp) ?_
  simp only [w_bind, w_pure, w_need, w_calm, g_0, g_s]
  refine ⟨rfl, d0, rfl, b_d0, ?_⟩
  simp only [List.set_cons_zero, putNs, putDs, List.map_cons, List.map_nil, List.cons_append, List.nil_append]
  rw [s_seq]
  refine setF_at (at0 := some x) (C := C_Found) rfl c.1.cl (c.2.1 "answers" (by simp)) (by simp) ?_
  simp only [w_bind, w_pure, w_need, w_calm, g_0, g_s]
  refine ⟨rfl, d1, rfl, b_d1, ?_⟩
  simp only [show putNs "answers" (["claims"] : List Str) = (["claims", "answers"] : List Str) from rfl, show ∀ e : D, putDs "answers" e (["claims"] : List Str) [cpy d0] = [cpy d0, e] from fun _ => rfl, List.set_cons_zero]
  refine setF_at (at0 := some x) (C := C_Found) rfl c.1.cl (c.2.1 "paper" (by simp)) (by simp) ?_
  simp only [w_bind, w_pure, w_need, w_calm, g_0, g_s]
  refine ⟨rfl, d2, rfl, b_d2, ?_⟩
  simp only [show putNs "paper" (["claims", "answers"] : List Str) = (["claims", "answers", "paper"] : List Str) from rfl, show ∀ e : D, putDs "paper" e (["claims", "answers"] : List Str) [cpy d0, cpy d1] = [cpy d0, cpy d1, e] from fun _ => rfl, List.set_cons_zero]
  exact ⟨rfl, hk⟩

abbrev s_Model__init__ : Stmt := clsDef 0 (topS 7)
theorem sc_Model__init__ : FnScope ["self", "steps", "claims"] ["self", "steps", "claims"] (defScope s_Model__init__) := ⟨rfl, rfl, rfl, by decide +kernel, rfl, by decide +kernel, by decide +kernel⟩
theorem ctor_Model (I_Model : InitF K mg "Model" "Model.__init__" s_Model__init__ C_Model fs_Model true ["self", "steps", "claims"]) (ct : clsTB K (CT C_Always C_Fails C_NoDrawing C_Found C_Model C_Paper C_Leaf C_Inverse C_Nothing C_Split) = true) (h_copied : DefG P w K mg base "copied" ["value"] 1 wCopied) : CtorG P w K mg base "Model" C_Model fs_Model true 2 := by
  obtain ⟨f_copied, d_copied, G_copied, n_copied, q_copied, b_copied⟩ := h_copied.ex
  refine ctorG_of I_Model rfl fun fi fd F => fn_okI (k := 1) F sc_Model__init__ rfl (fun cdv A outer s H E hg hr => (DSs.cons (DS.setF (k := 0) (fun _ => rfl) (fun _ => pv 0) (DE.call (fun _ => G_copied) (fun _ => hg) (fun _ => hr.mono (by omega)) (fun _ => takes_of rfl rfl rfl rfl) (fun _ => by rfl) (fun _ => n_copied) (fun _ => q_copied) (fun _ => b_copied) (DA.cons (DE.var fun _ => pv 1) DA.nil)))
    (DSs.one (DS.setF (k := 0) (fun _ => rfl) (fun _ => pv 0) (DE.call (fun _ => G_copied) (fun _ => hg) (fun _ => hr.mono (by omega)) (fun _ => takes_of rfl rfl rfl rfl) (fun _ => by rfl) (fun _ => n_copied) (fun _ => q_copied) (fun _ => b_copied) (DA.cons (DE.var fun _ => pv 2) DA.nil)))))) fun x ds Kd Kx n hl h => ?_
  obtain ⟨hb, hk⟩ := h
  match ds, hl, hb, hk with
  | [d0, d1], _, hb, hk =>
  have c := clsTB_at ct row_Model
  dsimp only at c
  have b_d0 : baseD d0 = true := hb d0 (by simp)
  have b_d1 : baseD d1 = true := hb d1 (by simp)
  clear hb
  unfold bodyI
  rw [s_seq]
  refine setF_at (at0 := some x) (C := C_Model) rfl c.1.cl (c.2.1 "steps" (by simp)) (by simp) ?_
  simp only [w_bind, w_pure, w_need, w_calm, g_0, g_s]
  refine ⟨rfl, d0, rfl, b_d0, ?_⟩
  simp only [List.set_cons_zero, putNs, putDs, List.map_cons, List.map_nil, List.cons_append, List.nil_append]
  refine setF_at (at0 := some x) (C := C_Model) rfl c.1.cl (c.2.1 "claims" (by simp)) (by simp) ?_
  simp only [w_bind, w_pure, w_need, w_calm, g_0, g_s]
  refine ⟨rfl, d1, rfl, b_d1, ?_⟩
  simp only [show putNs "claims" (["steps"] : List Str) = (["steps", "claims"] : List Str) from rfl, show ∀ e : D, putDs "claims" e (["steps"] : List Str) [cpy d0] = [cpy d0, e] from fun _ => rfl, List.set_cons_zero]
  exact ⟨rfl, hk⟩

abbrev s_Model__eq__ : Stmt := clsDef 1 (topS 7)
theorem sc_Model__eq__ : FnScope ["self", "other"] ["self", "other"] (defScope s_Model__eq__) := ⟨rfl, rfl, rfl, by decide +kernel, rfl, by decide +kernel, by decide +kernel⟩
theorem eqo_Model (ME_Model : MethF K "__eq__" "Model.__eq__" s_Model__eq__ C_Model ["self", "other"]) (ct : clsTB K (CT C_Always C_Fails C_NoDrawing C_Found C_Model C_Paper C_Leaf C_Inverse C_Nothing C_Split) = true) (h_model_key : DefG P w K mg base "model_key" ["model"] 1 (w_key C_Model fs_Model)) (mC_Model : mg "Model" = some (.ref C_Model)) (m_isinstance : mg "isinstance" = none) : EqG P w K mg base C_Model "__eq__" 2 (wEqO (CT C_Always C_Fails C_NoDrawing C_Found C_Model C_Paper C_Leaf C_Inverse C_Nothing C_Split) (("Model", C_Model, fs_Model, false) : CRow)) := by
  obtain ⟨f_model_key, d_model_key, G_model_key, n_model_key, q_model_key, b_model_key⟩ := h_model_key.ex
  refine eqG_of ME_Model rfl fun f fd F => fn_ok (k := 1) F sc_Model__eq__ (fun cdv A outer s H E hg hr => (DSs.one (DS.ret (DE.and (DE.isi1 (fun _ => rfl) (fun _ => pe_glob (v := .ref C_Model) (by rfl) mC_Model rfl) (.own C_Model) (fun _ => by rfl) (fun _ => m_isinstance) (DE.var fun _ => pv 1)) (DE.one (DE.cmp (fun _ => (op_eqU (k := 0) (T := fun _ _ => False) (fun _ _ h => h.elim) hg (hr.mono (by omega)))) sem_eqU (DE.call (fun _ => G_model_key) (fun _ => hg) (fun _ => hr.mono (by omega)) (fun _ => takes_of rfl rfl rfl rfl) (fun _ => by rfl) (fun _ => n_model_key) (fun _ => q_model_key) (fun _ => b_model_key) (DA.cons (DE.var fun _ => pv 0) DA.nil)) (DE.call (fun _ => G_model_key) (fun _ => hg) (fun _ => hr.mono (by omega)) (fun _ => takes_of rfl rfl rfl rfl) (fun _ => by rfl) (fun _ => n_model_key) (fun _ => q_model_key) (fun _ => b_model_key) (DA.cons (DE.var fun _ => pv 1) DA.nil)))))))) fun ds Kd Kx n hl h => ?_
  obtain ⟨q, xs, ys, rfl, hq, hlx, h⟩ := h
  have i1 : ∀ (Kd : D → Nat → Prop) (X : XD → Nat → Prop) (n : Nat), fIsi1 K (.ref C_Model) (.obj q.2.1 q.2.2.1 ys) Kd X n = Kd (.bl (decide (q.1 = "Model"))) n := fun Kd X n => isi_row ct hq row_Model
  rw [s_body, s_onE]
  simp only [w_bind, w_pure, w_calm, g_0, g_s, List.map_cons, List.map_nil, List.cons_append, i1]
  rcases h with ⟨hne, hk⟩ | ⟨rfl, hly, h⟩
  · simp only [hne, decide_false]
    exact hk
  · dsimp only at hlx hly h ⊢
    match xs, ys, hlx, hly, h with
    | [x0, x1], [y0, y1], _, _, h =>
    simp only [decide_true, w_bind, w_pure, w_calm, w_need, fe_Model_steps ct, fe_Model_claims ct]
    refine ⟨rfl, [x0, x1], rfl, rfl, rfl, [y0, y1], rfl, rfl, ?_⟩
    rcases h with ⟨e, hn, hk⟩ | ⟨h1, h2, hk⟩
    · cases e; exact .inr (.inl ⟨rfl, hn, hk⟩)
    · exact .inl (fEq_data h1 h2 hk)
abbrev s_Model__ne__ : Stmt := clsDef 2 (topS 7)
theorem sc_Model__ne__ : FnScope ["self", "other"] ["self", "other"] (defScope s_Model__ne__) := ⟨rfl, rfl, rfl, by decide +kernel, rfl, by decide +kernel, by decide +kernel⟩
theorem neo_Model (MN_Model : MethF K "__ne__" "Model.__ne__" s_Model__ne__ C_Model ["self", "other"]) (ct : clsTB K (CT C_Always C_Fails C_NoDrawing C_Found C_Model C_Paper C_Leaf C_Inverse C_Nothing C_Split) = true) (E_Model : EqG P w K mg base C_Model "__eq__" 2 (wEqO (CT C_Always C_Fails C_NoDrawing C_Found C_Model C_Paper C_Leaf C_Inverse C_Nothing C_Split) (("Model", C_Model, fs_Model, false) : CRow))) : EqG P w K mg base C_Model "__ne__" 3 (wNeO (CT C_Always C_Fails C_NoDrawing C_Found C_Model C_Paper C_Leaf C_Inverse C_Nothing C_Split) (("Model", C_Model, fs_Model, false) : CRow)) := by
  have hE : ∀ C wf, TEqO (CT C_Always C_Fails C_NoDrawing C_Found C_Model C_Paper C_Leaf C_Inverse C_Nothing C_Split) [(("Model", C_Model, fs_Model, false) : CRow)] C wf → EqG P w K mg base C "__eq__" 2 wf := fun C wf ⟨r, hr, e1, e2⟩ => by cases List.mem_singleton.mp hr; subst e1 e2; exact E_Model
  refine eqG_of MN_Model rfl fun f fd F => fn_ok (k := 2) F sc_Model__ne__ (fun cdv A outer s H E hg hr => (DSs.one (DS.ret (DE.not (DE.cmp (fun _ => (op_eqU (k := 2) hE hg (hr.mono (by omega)))) sem_eqU (DE.var fun _ => pv 0) (DE.var fun _ => pv 1)))))) fun ds Kd Kx n hl h => ?_
  have h' : wNeO (CT C_Always C_Fails C_NoDrawing C_Found C_Model C_Paper C_Leaf C_Inverse C_Nothing C_Split) (("Model", C_Model, fs_Model, false) : CRow) ds Kd Kx n := h
  obtain ⟨q, xs, ys, rfl, _, _, _⟩ := h
  rw [s_body, s_onE]
  simp only [w_bind, w_pure, w_calm, g_0, g_s, List.map_cons, List.map_nil, List.cons_append]
  refine eq_own ct (List.mem_singleton.mpr rfl) row_Model (wEqO.imp h' fun b k => ?_)
  exact k
abbrev s_Paper__init__ : Stmt := clsDef 0 (topS 17)
theorem sc_Paper__init__ : FnScope ["self", "unless", "shares", "leaves", "numbers"] ["self", "unless", "shares", "leaves", "numbers"] (defScope s_Paper__init__) := ⟨rfl, rfl, rfl, by decide +kernel, rfl, by decide +kernel, by decide +kernel⟩
theorem ctor_Paper (I_Paper : InitF K mg "Paper" "Paper.__init__" s_Paper__init__ C_Paper fs_Paper true ["self", "unless", "shares", "leaves", "numbers"]) (ct : clsTB K (CT C_Always C_Fails C_NoDrawing C_Found C_Model C_Paper C_Leaf C_Inverse C_Nothing C_Split) = true) (h_copied : DefG P w K mg base "copied" ["value"] 1 wCopied) : CtorG P w K mg base "Paper" C_Paper fs_Paper true 2 := by
  obtain ⟨f_copied, d_copied, G_copied, n_copied, q_copied, b_copied⟩ := h_copied.ex
  refine ctorG_of I_Paper rfl fun fi fd F => fn_okI (k := 1) F sc_Paper__init__ rfl (fun cdv A outer s H E hg hr => (DSs.cons (DS.setF (k := 0) (fun _ => rfl) (fun _ => pv 0) (DE.call (fun _ => G_copied) (fun _ => hg) (fun _ => hr.mono (by omega)) (fun _ => takes_of rfl rfl rfl rfl) (fun _ => by rfl) (fun _ => n_copied) (fun _ => q_copied) (fun _ => b_copied) (DA.cons (DE.var fun _ => pv 1) DA.nil)))
    (DSs.cons (DS.setF (k := 0) (fun _ => rfl) (fun _ => pv 0) (DE.call (fun _ => G_copied) (fun _ => hg) (fun _ => hr.mono (by omega)) (fun _ => takes_of rfl rfl rfl rfl) (fun _ => by rfl) (fun _ => n_copied) (fun _ => q_copied) (fun _ => b_copied) (DA.cons (DE.var fun _ => pv 2) DA.nil)))
    (DSs.cons (DS.setF (k := 0) (fun _ => rfl) (fun _ => pv 0) (DE.call (fun _ => G_copied) (fun _ => hg) (fun _ => hr.mono (by omega)) (fun _ => takes_of rfl rfl rfl rfl) (fun _ => by rfl) (fun _ => n_copied) (fun _ => q_copied) (fun _ => b_copied) (DA.cons (DE.var fun _ => pv 3) DA.nil)))
    (DSs.one (DS.setF (k := 0) (fun _ => rfl) (fun _ => pv 0) (DE.call (fun _ => G_copied) (fun _ => hg) (fun _ => hr.mono (by omega)) (fun _ => takes_of rfl rfl rfl rfl) (fun _ => by rfl) (fun _ => n_copied) (fun _ => q_copied) (fun _ => b_copied) (DA.cons (DE.var fun _ => pv 4) DA.nil)))))))) fun x ds Kd Kx n hl h => ?_
  obtain ⟨hb, hk⟩ := h
  match ds, hl, hb, hk with
  | [d0, d1, d2, d3], _, hb, hk =>
  have c := clsTB_at ct row_Paper
  dsimp only at c
  have b_d0 : baseD d0 = true := hb d0 (by simp)
  have b_d1 : baseD d1 = true := hb d1 (by simp)
  have b_d2 : baseD d2 = true := hb d2 (by simp)
  have b_d3 : baseD d3 = true := hb d3 (by simp)
  clear hb
  unfold bodyI
  rw [s_seq]
  refine setF_at (at0 := some x) (C := C_Paper) rfl c.1.cl (c.2.1 "unless" (by simp)) (by simp) ?_
  simp only [w_bind, w_pure, w_need, w_calm, g_0, g_s]
  refine ⟨rfl, d0, rfl, b_d0, ?_⟩
  simp only [List.set_cons_zero, putNs, putDs, List.map_cons, List.map_nil, List.cons_append, List.nil_append]
  rw [s_seq]
  refine setF_at (at0 := some x) (C := C_Paper) rfl c.1.cl (c.2.1 "shares" (by simp)) (by simp) ?_
  simp only [w_bind, w_pure, w_need, w_calm, g_0, g_s]
  refine ⟨rfl, d1, rfl, b_d1, ?_⟩
  simp only [show putNs "shares" (["unless"] : List Str) = (["unless", "shares"] : List Str) from rfl, show ∀ e : D, putDs "shares" e (["unless"] : List Str) [cpy d0] = [cpy d0, e] from fun _ => rfl, List.set_cons_zero]
  rw [s_seq]
  refine setF_at (at0 := some x) (C := C_Paper) rfl c.1.cl (c.2.1 "leaves" (by simp)) (by simp) ?_
  simp only [w_bind, w_pure, w_need, w_calm, g_0, g_s]
  refine ⟨rfl, d2, rfl, b_d2, ?_⟩
  simp only [show putNs "leaves" (["unless", "shares"] : List Str) = (["unless", "shares", "leaves"] : List Str) from rfl, show ∀ e : D, putDs "leaves" e (["unless", "shares"] : List Str) [cpy d0, cpy d1] = [cpy d0, cpy d1, e] from fun _ => rfl, List.set_cons_zero]
  refine setF_at (at0 := some x) (C := C_Paper) rfl c.1.cl (c.2.1 "numbers" (by simp)) (by simp) ?_
  simp only [w_bind, w_pure, w_need, w_calm, g_0, g_s]
  refine ⟨rfl, d3, rfl, b_d3, ?_⟩
  simp only [show putNs "numbers" (["unless", "shares", "leaves"] : List Str) = (["unless", "shares", "leaves", "numbers"] : List Str) from rfl, show ∀ e : D, putDs "numbers" e (["unless", "shares", "leaves"] : List Str) [cpy d0, cpy d1, cpy d2] = [cpy d0, cpy d1, cpy d2, e] from fun _ => rfl, List.set_cons_zero]
  exact ⟨rfl, hk⟩

abbrev s_Paper__eq__ : Stmt := clsDef 1 (topS 17)
theorem sc_Paper__eq__ : FnScope ["self", "other"] ["self", "other"] (defScope s_Paper__eq__) := ⟨rfl, rfl, rfl, by decide +kernel, rfl, by decide +kernel, by decide +kernel⟩
theorem eqo_Paper (ME_Paper : MethF K "__eq__" "Paper.__eq__" s_Paper__eq__ C_Paper ["self", "other"]) (ct : clsTB K (CT C_Always C_Fails C_NoDrawing C_Found C_Model C_Paper C_Leaf C_Inverse C_Nothing C_Split) = true) (h_paper_key : DefG P w K mg base "paper_key" ["paper"] 1 (w_key C_Paper fs_Paper)) (mC_Paper : mg "Paper" = some (.ref C_Paper)) (m_isinstance : mg "isinstance" = none) : EqG P w K mg base C_Paper "__eq__" 2 (wEqO (CT C_Always C_Fails C_NoDrawing C_Found C_Model C_Paper C_Leaf C_Inverse C_Nothing C_Split) (("Paper", C_Paper, fs_Paper, false) : CRow)) := by
  obtain ⟨f_paper_key, d_paper_key, G_paper_key, n_paper_key, q_paper_key, b_paper_key⟩ := h_paper_key.ex
  refine eqG_of ME_Paper rfl fun f fd F => fn_ok (k := 1) F sc_Paper__eq__ (fun cdv A outer s H E hg hr => (DSs.one (DS.ret (DE.and (DE.isi1 (fun _ => rfl) (fun _ => pe_glob (v := .ref C_Paper) (by rfl) mC_Paper rfl) (.own C_Paper) (fun _ => by rfl) (fun _ => m_isinstance) (DE.var fun _ => pv 1)) (DE.one (DE.cmp (fun _ => (op_eqU (k := 0) (T := fun _ _ => False) (fun _ _ h => h.elim) hg (hr.mono (by omega)))) sem_eqU (DE.call (fun _ => G_paper_key) (fun _ => hg) (fun _ => hr.mono (by omega)) (fun _ => takes_of rfl rfl rfl rfl) (fun _ => by rfl) (fun _ => n_paper_key) (fun _ => q_paper_key) (fun _ => b_paper_key) (DA.cons (DE.var fun _ => pv 0) DA.nil)) (DE.call (fun _ => G_paper_key) (fun _ => hg) (fun _ => hr.mono (by omega)) (fun _ => takes_of rfl rfl rfl rfl) (fun _ => by rfl) (fun _ => n_paper_key) (fun _ => q_paper_key) (fun _ => b_paper_key) (DA.cons (DE.var fun _ => pv 1) DA.nil)))))))) fun ds Kd Kx n hl h => ?_
  obtain ⟨q, xs, ys, rfl, hq, hlx, h⟩ := h
  have i1 : ∀ (Kd : D → Nat → Prop) (X : XD → Nat → Prop) (n : Nat), fIsi1 K (.ref C_Paper) (.obj q.2.1 q.2.2.1 ys) Kd X n = Kd (.bl (decide (q.1 = "Paper"))) n := fun Kd X n => isi_row ct hq row_Paper
  rw [s_body, s_onE]
  simp only [w_bind, w_pure, w_calm, g_0, g_s, List.map_cons, List.map_nil, List.cons_append, i1]
  rcases h with ⟨hne, hk⟩ | ⟨rfl, hly, h⟩
  · simp only [hne, decide_false]
    exact hk
  · dsimp only at hlx hly h ⊢
    match xs, ys, hlx, hly, h with
    | [x0, x1, x2, x3], [y0, y1, y2, y3], _, _, h =>
    simp only [decide_true, w_bind, w_pure, w_calm, w_need, fe_Paper_unless ct, fe_Paper_shares ct, fe_Paper_leaves ct, fe_Paper_numbers ct]
    refine ⟨rfl, [x0, x1, x2, x3], rfl, rfl, rfl, [y0, y1, y2, y3], rfl, rfl, ?_⟩
    rcases h with ⟨e, hn, hk⟩ | ⟨h1, h2, hk⟩
    · cases e; exact .inr (.inl ⟨rfl, hn, hk⟩)
    · exact .inl (fEq_data h1 h2 hk)
abbrev s_Paper__ne__ : Stmt := clsDef 2 (topS 17)
theorem sc_Paper__ne__ : FnScope ["self", "other"] ["self", "other"] (defScope s_Paper__ne__) := ⟨rfl, rfl, rfl, by decide +kernel, rfl, by decide +kernel, by decide +kernel⟩
theorem neo_Paper (MN_Paper : MethF K "__ne__" "Paper.__ne__" s_Paper__ne__ C_Paper ["self", "other"]) (ct : clsTB K (CT C_Always C_Fails C_NoDrawing C_Found C_Model C_Paper C_Leaf C_Inverse C_Nothing C_Split) = true) (E_Paper : EqG P w K mg base C_Paper "__eq__" 2 (wEqO (CT C_Always C_Fails C_NoDrawing C_Found C_Model C_Paper C_Leaf C_Inverse C_Nothing C_Split) (("Paper", C_Paper, fs_Paper, false) : CRow))) : EqG P w K mg base C_Paper "__ne__" 3 (wNeO (CT C_Always C_Fails C_NoDrawing C_Found C_Model C_Paper C_Leaf C_Inverse C_Nothing C_Split) (("Paper", C_Paper, fs_Paper, false) : CRow)) := by
  have hE : ∀ C wf, TEqO (CT C_Always C_Fails C_NoDrawing C_Found C_Model C_Paper C_Leaf C_Inverse C_Nothing C_Split) [(("Paper", C_Paper, fs_Paper, false) : CRow)] C wf → EqG P w K mg base C "__eq__" 2 wf := fun C wf ⟨r, hr, e1, e2⟩ => by cases List.mem_singleton.mp hr; subst e1 e2; exact E_Paper
  refine eqG_of MN_Paper rfl fun f fd F => fn_ok (k := 2) F sc_Paper__ne__ (fun cdv A outer s H E hg hr => (DSs.one (DS.ret (DE.not (DE.cmp (fun _ => (op_eqU (k := 2) hE hg (hr.mono (by omega)))) sem_eqU (DE.var fun _ => pv 0) (DE.var fun _ => pv 1)))))) fun ds Kd Kx n hl h => ?_
  have h' : wNeO (CT C_Always C_Fails C_NoDrawing C_Found C_Model C_Paper C_Leaf C_Inverse C_Nothing C_Split) (("Paper", C_Paper, fs_Paper, false) : CRow) ds Kd Kx n := h
  obtain ⟨q, xs, ys, rfl, _, _, _⟩ := h
  rw [s_body, s_onE]
  simp only [w_bind, w_pure, w_calm, g_0, g_s, List.map_cons, List.map_nil, List.cons_append]
  refine eq_own ct (List.mem_singleton.mpr rfl) row_Paper (wEqO.imp h' fun b k => ?_)
  exact k
abbrev s_Leaf__init__ : Stmt := clsDef 0 (topS 14)
theorem sc_Leaf__init__ : FnScope ["self", "choices", "tower", "places", "inverses", "void"] ["self", "choices", "tower", "places", "inverses", "void"] (defScope s_Leaf__init__) := ⟨rfl, rfl, rfl, by decide +kernel, rfl, by decide +kernel, by decide +kernel⟩
theorem ctor_Leaf (I_Leaf : InitF K mg "Leaf" "Leaf.__init__" s_Leaf__init__ C_Leaf fs_Leaf false ["self", "choices", "tower", "places", "inverses", "void"]) (ct : clsTB K (CT C_Always C_Fails C_NoDrawing C_Found C_Model C_Paper C_Leaf C_Inverse C_Nothing C_Split) = true) (h_copied : DefG P w K mg base "copied" ["value"] 1 wCopied) : CtorG P w K mg base "Leaf" C_Leaf fs_Leaf false 2 := by
  obtain ⟨f_copied, d_copied, G_copied, n_copied, q_copied, b_copied⟩ := h_copied.ex
  refine ctorG_of I_Leaf rfl fun fi fd F => fn_okI (k := 1) F sc_Leaf__init__ rfl (fun cdv A outer s H E hg hr => (DSs.cons (DS.setF (k := 0) (fun _ => rfl) (fun _ => pv 0) (DE.call (fun _ => G_copied) (fun _ => hg) (fun _ => hr.mono (by omega)) (fun _ => takes_of rfl rfl rfl rfl) (fun _ => by rfl) (fun _ => n_copied) (fun _ => q_copied) (fun _ => b_copied) (DA.cons (DE.var fun _ => pv 1) DA.nil)))
    (DSs.cons (DS.setF (k := 0) (fun _ => rfl) (fun _ => pv 0) (DE.call (fun _ => G_copied) (fun _ => hg) (fun _ => hr.mono (by omega)) (fun _ => takes_of rfl rfl rfl rfl) (fun _ => by rfl) (fun _ => n_copied) (fun _ => q_copied) (fun _ => b_copied) (DA.cons (DE.var fun _ => pv 2) DA.nil)))
    (DSs.cons (DS.setF (k := 0) (fun _ => rfl) (fun _ => pv 0) (DE.call (fun _ => G_copied) (fun _ => hg) (fun _ => hr.mono (by omega)) (fun _ => takes_of rfl rfl rfl rfl) (fun _ => by rfl) (fun _ => n_copied) (fun _ => q_copied) (fun _ => b_copied) (DA.cons (DE.var fun _ => pv 3) DA.nil)))
    (DSs.cons (DS.setF (k := 0) (fun _ => rfl) (fun _ => pv 0) (DE.call (fun _ => G_copied) (fun _ => hg) (fun _ => hr.mono (by omega)) (fun _ => takes_of rfl rfl rfl rfl) (fun _ => by rfl) (fun _ => n_copied) (fun _ => q_copied) (fun _ => b_copied) (DA.cons (DE.var fun _ => pv 4) DA.nil)))
    (DSs.one (DS.setF (k := 0) (fun _ => rfl) (fun _ => pv 0) (DE.call (fun _ => G_copied) (fun _ => hg) (fun _ => hr.mono (by omega)) (fun _ => takes_of rfl rfl rfl rfl) (fun _ => by rfl) (fun _ => n_copied) (fun _ => q_copied) (fun _ => b_copied) (DA.cons (DE.var fun _ => pv 5) DA.nil))))))))) fun x ds Kd Kx n hl h => ?_
  obtain ⟨hb, hk⟩ := h
  match ds, hl, hb, hk with
  | [d0, d1, d2, d3, d4], _, hb, hk =>
  have c := clsTB_at ct row_Leaf
  dsimp only at c
  have b_d0 : baseD d0 = true := hb d0 (by simp)
  have b_d1 : baseD d1 = true := hb d1 (by simp)
  have b_d2 : baseD d2 = true := hb d2 (by simp)
  have b_d3 : baseD d3 = true := hb d3 (by simp)
  have b_d4 : baseD d4 = true := hb d4 (by simp)
  clear hb
  unfold bodyI
  rw [s_seq]
  refine setF_at (at0 := some x) (C := C_Leaf) rfl c.1.cl (c.2.1 "choices" (by simp)) (by simp) ?_
  simp only [w_bind, w_pure, w_need, w_calm, g_0, g_s]
  refine ⟨rfl, d0, rfl, b_d0, ?_⟩
  simp only [List.set_cons_zero, putNs, putDs, List.map_cons, List.map_nil, List.cons_append, List.nil_append]
  rw [s_seq]
  refine setF_at (at0 := some x) (C := C_Leaf) rfl c.1.cl (c.2.1 "tower" (by simp)) (by simp) ?_
  simp only [w_bind, w_pure, w_need, w_calm, g_0, g_s]
  refine ⟨rfl, d1, rfl, b_d1, ?_⟩
  simp only [show putNs "tower" (["choices"] : List Str) = (["choices", "tower"] : List Str) from rfl, show ∀ e : D, putDs "tower" e (["choices"] : List Str) [cpy d0] = [cpy d0, e] from fun _ => rfl, List.set_cons_zero]
  rw [s_seq]
  refine setF_at (at0 := some x) (C := C_Leaf) rfl c.1.cl (c.2.1 "places" (by simp)) (by simp) ?_
  simp only [w_bind, w_pure, w_need, w_calm, g_0, g_s]
  refine ⟨rfl, d2, rfl, b_d2, ?_⟩
  simp only [show putNs "places" (["choices", "tower"] : List Str) = (["choices", "tower", "places"] : List Str) from rfl, show ∀ e : D, putDs "places" e (["choices", "tower"] : List Str) [cpy d0, cpy d1] = [cpy d0, cpy d1, e] from fun _ => rfl, List.set_cons_zero]
  rw [s_seq]
  refine setF_at (at0 := some x) (C := C_Leaf) rfl c.1.cl (c.2.1 "inverses" (by simp)) (by simp) ?_
  simp only [w_bind, w_pure, w_need, w_calm, g_0, g_s]
  refine ⟨rfl, d3, rfl, b_d3, ?_⟩
  simp only [show putNs "inverses" (["choices", "tower", "places"] : List Str) = (["choices", "tower", "places", "inverses"] : List Str) from rfl, show ∀ e : D, putDs "inverses" e (["choices", "tower", "places"] : List Str) [cpy d0, cpy d1, cpy d2] = [cpy d0, cpy d1, cpy d2, e] from fun _ => rfl, List.set_cons_zero]
  refine setF_at (at0 := some x) (C := C_Leaf) rfl c.1.cl (c.2.1 "void" (by simp)) (by simp) ?_
  simp only [w_bind, w_pure, w_need, w_calm, g_0, g_s]
  refine ⟨rfl, d4, rfl, b_d4, ?_⟩
  simp only [show putNs "void" (["choices", "tower", "places", "inverses"] : List Str) = (["choices", "tower", "places", "inverses", "void"] : List Str) from rfl, show ∀ e : D, putDs "void" e (["choices", "tower", "places", "inverses"] : List Str) [cpy d0, cpy d1, cpy d2, cpy d3] = [cpy d0, cpy d1, cpy d2, cpy d3, e] from fun _ => rfl, List.set_cons_zero]
  exact ⟨rfl, hk⟩

abbrev s_Leaf__eq__ : Stmt := clsDef 1 (topS 14)
theorem sc_Leaf__eq__ : FnScope ["self", "other"] ["self", "other"] (defScope s_Leaf__eq__) := ⟨rfl, rfl, rfl, by decide +kernel, rfl, by decide +kernel, by decide +kernel⟩
theorem eqo_Leaf (ME_Leaf : MethF K "__eq__" "Leaf.__eq__" s_Leaf__eq__ C_Leaf ["self", "other"]) (ct : clsTB K (CT C_Always C_Fails C_NoDrawing C_Found C_Model C_Paper C_Leaf C_Inverse C_Nothing C_Split) = true) (h_leaf_key : DefG P w K mg base "leaf_key" ["leaf"] 1 (w_key C_Leaf fs_Leaf)) (mC_Leaf : mg "Leaf" = some (.ref C_Leaf)) (m_isinstance : mg "isinstance" = none) : EqG P w K mg base C_Leaf "__eq__" 2 (wEqO (CT C_Always C_Fails C_NoDrawing C_Found C_Model C_Paper C_Leaf C_Inverse C_Nothing C_Split) (("Leaf", C_Leaf, fs_Leaf, false) : CRow)) := by
  obtain ⟨f_leaf_key, d_leaf_key, G_leaf_key, n_leaf_key, q_leaf_key, b_leaf_key⟩ := h_leaf_key.ex
  refine eqG_of ME_Leaf rfl fun f fd F => fn_ok (k := 1) F sc_Leaf__eq__ (fun cdv A outer s H E hg hr => (DSs.one (DS.ret (DE.and (DE.isi1 (fun _ => rfl) (fun _ => pe_glob (v := .ref C_Leaf) (by rfl) mC_Leaf rfl) (.own C_Leaf) (fun _ => by rfl) (fun _ => m_isinstance) (DE.var fun _ => pv 1)) (DE.one (DE.cmp (fun _ => (op_eqU (k := 0) (T := fun _ _ => False) (fun _ _ h => h.elim) hg (hr.mono (by omega)))) sem_eqU (DE.call (fun _ => G_leaf_key) (fun _ => hg) (fun _ => hr.mono (by omega)) (fun _ => takes_of rfl rfl rfl rfl) (fun _ => by rfl) (fun _ => n_leaf_key) (fun _ => q_leaf_key) (fun _ => b_leaf_key) (DA.cons (DE.var fun _ => pv 0) DA.nil)) (DE.call (fun _ => G_leaf_key) (fun _ => hg) (fun _ => hr.mono (by omega)) (fun _ => takes_of rfl rfl rfl rfl) (fun _ => by rfl) (fun _ => n_leaf_key) (fun _ => q_leaf_key) (fun _ => b_leaf_key) (DA.cons (DE.var fun _ => pv 1) DA.nil)))))))) fun ds Kd Kx n hl h => ?_
  obtain ⟨q, xs, ys, rfl, hq, hlx, h⟩ := h
  have i1 : ∀ (Kd : D → Nat → Prop) (X : XD → Nat → Prop) (n : Nat), fIsi1 K (.ref C_Leaf) (.obj q.2.1 q.2.2.1 ys) Kd X n = Kd (.bl (decide (q.1 = "Leaf"))) n := fun Kd X n => isi_row ct hq row_Leaf
  rw [s_body, s_onE]
  simp only [w_bind, w_pure, w_calm, g_0, g_s, List.map_cons, List.map_nil, List.cons_append, i1]
  rcases h with ⟨hne, hk⟩ | ⟨rfl, hly, h⟩
  · simp only [hne, decide_false]
    exact hk
  · dsimp only at hlx hly h ⊢
    match xs, ys, hlx, hly, h with
    | [x0, x1, x2, x3, x4], [y0, y1, y2, y3, y4], _, _, h =>
    simp only [decide_true, w_bind, w_pure, w_calm, w_need, fe_Leaf_choices ct, fe_Leaf_tower ct, fe_Leaf_places ct, fe_Leaf_inverses ct, fe_Leaf_void ct]
    refine ⟨rfl, [x0, x1, x2, x3, x4], rfl, rfl, rfl, [y0, y1, y2, y3, y4], rfl, rfl, ?_⟩
    rcases h with ⟨e, hn, hk⟩ | ⟨h1, h2, hk⟩
    · cases e; exact .inr (.inl ⟨rfl, hn, hk⟩)
    · exact .inl (fEq_data h1 h2 hk)
abbrev s_Leaf__ne__ : Stmt := clsDef 2 (topS 14)
theorem sc_Leaf__ne__ : FnScope ["self", "other"] ["self", "other"] (defScope s_Leaf__ne__) := ⟨rfl, rfl, rfl, by decide +kernel, rfl, by decide +kernel, by decide +kernel⟩
theorem neo_Leaf (MN_Leaf : MethF K "__ne__" "Leaf.__ne__" s_Leaf__ne__ C_Leaf ["self", "other"]) (ct : clsTB K (CT C_Always C_Fails C_NoDrawing C_Found C_Model C_Paper C_Leaf C_Inverse C_Nothing C_Split) = true) (E_Leaf : EqG P w K mg base C_Leaf "__eq__" 2 (wEqO (CT C_Always C_Fails C_NoDrawing C_Found C_Model C_Paper C_Leaf C_Inverse C_Nothing C_Split) (("Leaf", C_Leaf, fs_Leaf, false) : CRow))) : EqG P w K mg base C_Leaf "__ne__" 3 (wNeO (CT C_Always C_Fails C_NoDrawing C_Found C_Model C_Paper C_Leaf C_Inverse C_Nothing C_Split) (("Leaf", C_Leaf, fs_Leaf, false) : CRow)) := by
  have hE : ∀ C wf, TEqO (CT C_Always C_Fails C_NoDrawing C_Found C_Model C_Paper C_Leaf C_Inverse C_Nothing C_Split) [(("Leaf", C_Leaf, fs_Leaf, false) : CRow)] C wf → EqG P w K mg base C "__eq__" 2 wf := fun C wf ⟨r, hr, e1, e2⟩ => by cases List.mem_singleton.mp hr; subst e1 e2; exact E_Leaf
  refine eqG_of MN_Leaf rfl fun f fd F => fn_ok (k := 2) F sc_Leaf__ne__ (fun cdv A outer s H E hg hr => (DSs.one (DS.ret (DE.not (DE.cmp (fun _ => (op_eqU (k := 2) hE hg (hr.mono (by omega)))) sem_eqU (DE.var fun _ => pv 0) (DE.var fun _ => pv 1)))))) fun ds Kd Kx n hl h => ?_
  have h' : wNeO (CT C_Always C_Fails C_NoDrawing C_Found C_Model C_Paper C_Leaf C_Inverse C_Nothing C_Split) (("Leaf", C_Leaf, fs_Leaf, false) : CRow) ds Kd Kx n := h
  obtain ⟨q, xs, ys, rfl, _, _, _⟩ := h
  rw [s_body, s_onE]
  simp only [w_bind, w_pure, w_calm, g_0, g_s, List.map_cons, List.map_nil, List.cons_append]
  refine eq_own ct (List.mem_singleton.mpr rfl) row_Leaf (wEqO.imp h' fun b k => ?_)
  exact k
abbrev s_Inverse__init__ : Stmt := clsDef 0 (topS 10)
theorem sc_Inverse__init__ : FnScope ["self", "number"] ["self", "number"] (defScope s_Inverse__init__) := ⟨rfl, rfl, rfl, by decide +kernel, rfl, by decide +kernel, by decide +kernel⟩
theorem ctor_Inverse (I_Inverse : InitF K mg "Inverse" "Inverse.__init__" s_Inverse__init__ C_Inverse fs_Inverse false ["self", "number"]) (ct : clsTB K (CT C_Always C_Fails C_NoDrawing C_Found C_Model C_Paper C_Leaf C_Inverse C_Nothing C_Split) = true) (h_copied : DefG P w K mg base "copied" ["value"] 1 wCopied) : CtorG P w K mg base "Inverse" C_Inverse fs_Inverse false 2 := by
  obtain ⟨f_copied, d_copied, G_copied, n_copied, q_copied, b_copied⟩ := h_copied.ex
  refine ctorG_of I_Inverse rfl fun fi fd F => fn_okI (k := 1) F sc_Inverse__init__ rfl (fun cdv A outer s H E hg hr => (DSs.one (DS.setF (k := 0) (fun _ => rfl) (fun _ => pv 0) (DE.call (fun _ => G_copied) (fun _ => hg) (fun _ => hr.mono (by omega)) (fun _ => takes_of rfl rfl rfl rfl) (fun _ => by rfl) (fun _ => n_copied) (fun _ => q_copied) (fun _ => b_copied) (DA.cons (DE.var fun _ => pv 1) DA.nil))))) fun x ds Kd Kx n hl h => ?_
  obtain ⟨hb, hk⟩ := h
  match ds, hl, hb, hk with
  | [d0], _, hb, hk =>
  have c := clsTB_at ct row_Inverse
  dsimp only at c
  have b_d0 : baseD d0 = true := hb d0 (by simp)
  clear hb
  unfold bodyI
  refine setF_at (at0 := some x) (C := C_Inverse) rfl c.1.cl (c.2.1 "number" (by simp)) (by simp) ?_
  simp only [w_bind, w_pure, w_need, w_calm, g_0, g_s]
  refine ⟨rfl, d0, rfl, b_d0, ?_⟩
  simp only [List.set_cons_zero, putNs, putDs, List.map_cons, List.map_nil, List.cons_append, List.nil_append]
  exact ⟨rfl, hk⟩

abbrev s_Split__init__ : Stmt := clsDef 0 (topS 12)
theorem sc_Split__init__ : FnScope ["self", "level", "r"] ["self", "level", "r"] (defScope s_Split__init__) := ⟨rfl, rfl, rfl, by decide +kernel, rfl, by decide +kernel, by decide +kernel⟩
theorem ctor_Split (I_Split : InitF K mg "Split" "Split.__init__" s_Split__init__ C_Split fs_Split false ["self", "level", "r"]) (ct : clsTB K (CT C_Always C_Fails C_NoDrawing C_Found C_Model C_Paper C_Leaf C_Inverse C_Nothing C_Split) = true) (h_copied : DefG P w K mg base "copied" ["value"] 1 wCopied) : CtorG P w K mg base "Split" C_Split fs_Split false 2 := by
  obtain ⟨f_copied, d_copied, G_copied, n_copied, q_copied, b_copied⟩ := h_copied.ex
  refine ctorG_of I_Split rfl fun fi fd F => fn_okI (k := 1) F sc_Split__init__ rfl (fun cdv A outer s H E hg hr => (DSs.cons (DS.setF (k := 0) (fun _ => rfl) (fun _ => pv 0) (DE.call (fun _ => G_copied) (fun _ => hg) (fun _ => hr.mono (by omega)) (fun _ => takes_of rfl rfl rfl rfl) (fun _ => by rfl) (fun _ => n_copied) (fun _ => q_copied) (fun _ => b_copied) (DA.cons (DE.var fun _ => pv 1) DA.nil)))
    (DSs.one (DS.setF (k := 0) (fun _ => rfl) (fun _ => pv 0) (DE.call (fun _ => G_copied) (fun _ => hg) (fun _ => hr.mono (by omega)) (fun _ => takes_of rfl rfl rfl rfl) (fun _ => by rfl) (fun _ => n_copied) (fun _ => q_copied) (fun _ => b_copied) (DA.cons (DE.var fun _ => pv 2) DA.nil)))))) fun x ds Kd Kx n hl h => ?_
  obtain ⟨hb, hk⟩ := h
  match ds, hl, hb, hk with
  | [d0, d1], _, hb, hk =>
  have c := clsTB_at ct row_Split
  dsimp only at c
  have b_d0 : baseD d0 = true := hb d0 (by simp)
  have b_d1 : baseD d1 = true := hb d1 (by simp)
  clear hb
  unfold bodyI
  rw [s_seq]
  refine setF_at (at0 := some x) (C := C_Split) rfl c.1.cl (c.2.1 "level" (by simp)) (by simp) ?_
  simp only [w_bind, w_pure, w_need, w_calm, g_0, g_s]
  refine ⟨rfl, d0, rfl, b_d0, ?_⟩
  simp only [List.set_cons_zero, putNs, putDs, List.map_cons, List.map_nil, List.cons_append, List.nil_append]
  refine setF_at (at0 := some x) (C := C_Split) rfl c.1.cl (c.2.1 "r" (by simp)) (by simp) ?_
  simp only [w_bind, w_pure, w_need, w_calm, g_0, g_s]
  refine ⟨rfl, d1, rfl, b_d1, ?_⟩
  simp only [show putNs "r" (["level"] : List Str) = (["level", "r"] : List Str) from rfl, show ∀ e : D, putDs "r" e (["level"] : List Str) [cpy d0] = [cpy d0, e] from fun _ => rfl, List.set_cons_zero]
  exact ⟨rfl, hk⟩


theorem ok__law_pen  (F : DefF K mg "_law_pen" s__law_pen ["script"]) (m_int : mg "int" = none) (m_list : mg "list" = none) : DefG P w K mg base "_law_pen" ["script"] (0 + 1) (w__law_pen K) := by
  refine def_ok (k := 0) F sc__law_pen (fun f cdv A outer s H E hg hr => (DSs.cons (DS.set (k := 1) (fun _ => sc__law_pen.nd) (fun _ => rfl) (fun _ => (.inl rfl)) DE.int)
    (DSs.cons (DS.for (fun _ => passes_of rfl) (fun _ => rfl) (DI.scr (fun _ => rfl) (DE.var fun _ => pv 0)) (DG.name (k := 2) (fun _ => pg_name sc__law_pen.nd rfl (.inl rfl))) (DSs.one (DS.set (k := 1) (fun _ => sc__law_pen.nd) (fun _ => rfl) (fun _ => (.inl rfl)) (DE.op2 (fun _ _ _ p q => pe_op op_modA p q) sem_int (DE.opL (fun _ _ ha => pe_callTy call_int1 (by rfl) m_int (by decide +kernel) ha) sem_intC (DA.cons (DE.op2 (fun _ _ _ p q => pe_op op_addA p q) sem_add (DE.op2 (fun _ _ _ p q => pe_op op_mulW p q) sem_int (DE.var fun _ => pv 1) DE.int) (DE.var fun _ => pv 2)) DA.nil)) DE.int))))
    (DSs.one (DS.ret (DE.pen (i := 0) (j := 1) fun _ => pe_disp (pps_cons pe_str (pe_callTy call_list_of (by rfl) m_list (by decide +kernel) (pa_cons (pv 0) pa_nil)) (pps_cons pe_str pe_int (pps_cons pe_str pe_int (pps_cons pe_str pe_int (pps_cons pe_str (pv 1) pps_nil))))) (by rfl) (by rfl) (by simp) (by decide))))))) fun ds Kd Kx n hl h => ?_
  match ds, hl with
  | [x], _ =>
  cases x with
  | scr K' ns ts =>
    obtain ⟨⟨rfl, h1⟩, hk⟩ := h
    simp only [s_body, s_seq, s_next, s_onE, s_onT, s_asg, s_par, s_for, s_raise, s_try, s_asgG, w_bind, w_pure, w_need, w_fail, w_calm, g_0, g_s, fEq_int, fNe_int, fEq_str, fNe_str, fInt_at, fInt0_at, fAdd_int, fCmp_at, fNeg_at, fLen_tup, fLen_lst, fIx_t0, fIx_l0, fIx_t1, fIx_l1, fIntC_at, fAbs_at, fGcd_at, fRepr_at, fBits_at, fIs_at, range_at, List.map_cons, List.map_nil, List.length_cons, List.length_nil, List.cons_append, List.nil_append, List.set_cons_zero, List.set_cons_succ, List.replicate, Nat.reduceAdd, Nat.reduceSub, List.append_nil, dName, true_and, and_true, Nat.zero_add, Nat.sub_self]
    refine forD_inv (fun k ρ n' => n' = n ∧ ∃ (f : Int) (z : Option SV), ρ = [some (.d (.scr K' ns ts)), some (.d (.int f)), z] ∧ 0 ≤ f ∧ f < 999999391) _ _ _ ⟨rfl, 0, _, rfl, by decide, by decide⟩ (fun ρ n' hi => ?_) fun k d ρ n' E' hd hi hnx hbk hrt hex => ?_
    · obtain ⟨rfl, f, z, rfl, f0, f1⟩ := hi
      exact ⟨⟨rfl, h1, f0, by omega⟩, hk⟩
    · obtain ⟨rfl, f, z, rfl, f0, f1⟩ := hi
      obtain ⟨c, _, rfl⟩ := List.mem_map.mp hd
      simp only [s_body, s_seq, s_next, s_onE, s_onT, s_asg, s_par, s_for, s_raise, s_try, s_asgG, w_bind, w_pure, w_need, w_fail, w_calm, g_0, g_s, fEq_int, fNe_int, fEq_str, fNe_str, fInt_at, fInt0_at, fAdd_int, fCmp_at, fNeg_at, fLen_tup, fLen_lst, fIx_t0, fIx_l0, fIx_t1, fIx_l1, fIntC_at, fAbs_at, fGcd_at, fRepr_at, fBits_at, fIs_at, range_at, List.map_cons, List.map_nil, List.length_cons, List.length_nil, List.cons_append, List.nil_append, List.set_cons_zero, List.set_cons_succ, List.replicate, Nat.reduceAdd, Nat.reduceSub, List.append_nil, dName, true_and, and_true, Nat.zero_add, Nat.sub_self]
      refine ⟨wide_mul (a := 30) (b := 8) (by omega) (by decide) (by decide) (by decide) (by decide), (by show (999999391 : Int) ≠ 0; decide), hnx _ _ ⟨rfl, _, _, rfl, ?_, ?_⟩⟩
      · rw [Int.fmod_eq_emod_of_nonneg _ (by decide)]
        exact Int.emod_nonneg _ (by decide)
      · rw [Int.fmod_eq_emod_of_nonneg _ (by decide)]
        exact Int.emod_lt_of_pos _ (by decide)
  | _ => exact h.elim


theorem ok__law_draw  (F : DefF K mg "_law_draw" s__law_draw ["pen", "many"]) (m_len : mg "len" = none) (m_int : mg "int" = none) : DefG P w K mg base "_law_draw" ["pen", "many"] (0 + 1) w__law_draw := by
  exact def_draw (k := 0) F sc__law_draw rfl rfl fun f cdv A outer s H E hg hr => pss_cons (ps_dput hr.room1 (pv 0) pe_str (pe_op op_add (pe_dget hr.room1 (pv 0) pe_str (fun _ _ => rfl)) pe_int) (by rfl))
    (pss_cons (ps_if (pw_and (pt_cmpR op_eq (pe_dget hr.room1 (pv 0) pe_str (fun _ _ => rfl)) pe_int (nomark _)) (pw_and1 (pt_cmpR op_lt (pe_dget hr.room1 (pv 0) pe_str (fun _ _ => rfl)) (pe_callB call_lenA (by rfl) m_len (by decide +kernel) (pa_cons (pe_dget hr.room1 (pv 0) pe_str (fun _ _ => rfl)) pa_nil)) (nomark _)))).pt
      (pss_cons (ps_set (i := 2) sc__law_draw.nd rfl (.inl rfl) (pe_ix ix_seq (pe_dget hr.room1 (pv 0) pe_str (fun _ _ => rfl)) (pe_dget hr.room1 (pv 0) pe_str (fun _ _ => rfl)) (fun _ _ => rfl)))
        (pss_cons (ps_dput hr.room1 (pv 0) pe_str (pe_op op_add (pe_dget hr.room1 (pv 0) pe_str (fun _ _ => rfl)) pe_int) (by rfl))
          (pss_one (ps_if (pt_cmpR op_ge (pv 2) (pe_op op_pow pe_int pe_int) (nomark _))
            (pss_one (ps_dput hr.room1 (pv 0) pe_str (pe_op op_sub (pv 2) (pe_op op_pow pe_int pe_int)) (by rfl)))
            (pss_one (ps_dput hr.room1 (pv 0) pe_str (pe_op op_modN (pe_callTy call_int1 (by rfl) m_int (by decide +kernel) (pa_cons (pe_op op_add (pe_op op_mulW (pe_dget hr.room1 (pv 0) pe_str (fun _ _ => rfl)) pe_int) (pv 2)) pa_nil)) pe_int) (by rfl)))))))
      pss_nil)
    (pss_cons (ps_if (pt_cmpR op_gt (pe_dget hr.room1 (pv 0) pe_str (fun _ _ => rfl)) pe_int (nomark _))
      (pss_cons (ps_set (i := 3) sc__law_draw.nd rfl (.inl rfl) (pe_op op_modN (pe_callTy call_int1 (by rfl) m_int (by decide +kernel) (pa_cons (pe_dget hr.room1 (pv 0) pe_str (fun _ _ => rfl)) pa_nil)) (pv 1)))
        (pss_cons (ps_dput hr.room1 (pv 0) pe_str (pe_op op_fdivA (pe_dget hr.room1 (pv 0) pe_str (fun _ _ => rfl)) (pv 1)) (by rfl)) (pss_one (ps_ret (pv 3)))))
      pss_nil)
    (pss_cons (ps_set (i := 4) sc__law_draw.nd rfl (.inl rfl) (pe_op op_add (pe_op op_add (pe_dget hr.room1 (pv 0) pe_str (fun _ _ => rfl)) (pe_op op_mulW (pe_dget hr.room1 (pv 0) pe_str (fun _ _ => rfl)) pe_int)) pe_int))
    (pss_one (ps_ret (pe_op op_modN (pe_op op_fdivA (pe_callTy call_int1 (by rfl) m_int (by decide +kernel) (pa_cons (pe_op op_modN (pe_op op_pow (pv 4) pe_int) pe_int) pa_nil)) pe_int) (pv 1)))))))

theorem ok__law_pick  (F : DefF K mg "_law_pick" s__law_pick ["pen", "some"]) (h__law_draw : DefG P w K mg base "_law_draw" ["pen", "many"] (1) w__law_draw) (m_len : mg "len" = none) : DefG P w K mg base "_law_pick" ["pen", "some"] (1 + 1) w__law_pick := by
  obtain ⟨f__law_draw, d__law_draw, G__law_draw, n__law_draw, q__law_draw, b__law_draw⟩ := h__law_draw.ex
  refine def_ok (k := 1) F sc__law_pick (fun f cdv A outer s H E hg hr => (DSs.one (DS.ret (DE.op2 (fun _ _ _ p q => pe_ix ix_seq p q (fun _ _ => rfl)) sem_ix (DE.var fun _ => pv 1) (DE.call (fun _ => G__law_draw) (fun _ => hg) (fun _ => hr.mono (by omega)) (fun _ => takes_of rfl rfl rfl rfl) (fun _ => by rfl) (fun _ => n__law_draw) (fun _ => q__law_draw) (fun _ => b__law_draw) (DA.cons (DE.var fun _ => pv 0) (DA.cons (DE.opL (fun _ _ ha => pe_callB call_lenA (by rfl) m_len (by decide +kernel) ha) sem_len (DA.cons (DE.var fun _ => pv 1) DA.nil)) DA.nil))))))) fun ds Kd Kx n hl h => ?_
  match ds, hl with
  | [x, y], _ =>
  cases x with
  | pen =>
    cases y with
    | lst es =>
      obtain ⟨⟨h0, h1, h2⟩, hk⟩ := h
      simp only [s_body, s_seq, s_next, s_onE, s_onT, s_asg, s_par, s_for, s_raise, s_try, s_asgG, w_bind, w_pure, w_need, w_fail, w_calm, g_0, g_s, fEq_int, fNe_int, fEq_str, fNe_str, fInt_at, fInt0_at, fAdd_int, fCmp_at, fNeg_at, fLen_tup, fLen_lst, fIx_t0, fIx_l0, fIx_t1, fIx_l1, fIntC_at, fAbs_at, fGcd_at, fRepr_at, fBits_at, fIs_at, range_at, List.map_cons, List.map_nil, List.length_cons, List.length_nil, List.cons_append, List.nil_append, List.set_cons_zero, List.set_cons_succ, List.replicate, Nat.reduceAdd, Nat.reduceSub, List.append_nil, dName, true_and, and_true, Nat.zero_add, Nat.sub_self]
      refine ⟨by omega, by omega, h2, fun r r0 r1 => ?_⟩
      have hlt : r.toNat < es.length := by omega
      have e : L2.atI es r = some es[r.toNat] := by
        unfold L2.atI L2.ixN
        rw [if_pos r0, if_pos (by omega)]
        simp [hlt]
      show (match L2.atI es r with
        | some d => (pure d : Wm D)
        | none => Wm.fail) _ _ _
      rw [e]
      exact hk _ (List.getElem_mem hlt)
    | _ => exact h.elim
  | _ => exact h.elim


theorem ok__law_value  (F : DefF K mg "_law_value" s__law_value ["pen"]) (h__law_pick : DefG P w K mg base "_law_pick" ["pen", "some"] (2) w__law_pick) (m_range : mg "range" = none) (h__law_draw : DefG P w K mg base "_law_draw" ["pen", "many"] (1) w__law_draw) : DefG P w K mg base "_law_value" ["pen"] (2 + 1) w__law_value := by
  obtain ⟨f__law_pick, d__law_pick, G__law_pick, n__law_pick, q__law_pick, b__law_pick⟩ := h__law_pick.ex
  obtain ⟨f__law_draw, d__law_draw, G__law_draw, n__law_draw, q__law_draw, b__law_draw⟩ := h__law_draw.ex
  refine def_ok (k := 2) F sc__law_value (fun f cdv A outer s H E hg hr => (DSs.cons (DS.set (k := 1) (fun _ => sc__law_value.nd) (fun _ => rfl) (fun _ => (.inl rfl)) (DE.lst (DA.cons (DE.cst (.tup [.int 1, .int 2]) (by rfl)) (DA.cons (DE.cst (.lst [.int 1, .lst [.int 2]]) (by rfl)) (DA.cons (DE.cst (.lst []) (by rfl)) (DA.cons (DE.cst (.tup []) (by rfl)) (DA.cons DE.str (DA.cons DE.int (DA.cons DE.non (DA.cons DE.bl (DA.cons (DE.cst (.tup [.tup [.int 0, .int 1]]) (by rfl)) (DA.cons (DE.cst (.lst [.lst [.int 0], .lst [.int 1]]) (by rfl)) (DA.cons (DE.dic1 (by decide)) (DA.cons (DE.op1 (fun _ _ p => pe_un un_neg p) sem_neg DE.int) (DA.cons DE.str (DA.cons (DE.cst (.lst [.non]) (by rfl)) DA.nil))))))))))))))))
    (DSs.one (DS.ret (DE.call (fun _ => G__law_pick) (fun _ => hg) (fun _ => hr.mono (by omega)) (fun _ => takes_of rfl rfl rfl rfl) (fun _ => by rfl) (fun _ => n__law_pick) (fun _ => q__law_pick) (fun _ => b__law_pick) (DA.cons (DE.var fun _ => pv 0) (DA.cons (DE.op2 (fun _ _ _ p q => pe_op op_addA p q) sem_add (DE.var fun _ => pv 1) (DE.lst (DA.cons (DE.lc (own := [("k", 2)]) (fun _ => rfl) (fun _ => sc__law_value.nd) (DI.range1 (fun _ => by rfl) (fun _ => m_range) (DA.cons DE.int DA.nil)) (fun _ => blkOk_by (N := ["pen", "some", "k"]) (sc := defScope s__law_value) (by decide +kernel)) (DG.name (k := 2) (fun _ => pg_name sc__law_value.nd rfl (.inl rfl))) DTs.nil (DE.call (fun _ => G__law_draw) (fun _ => hg) (fun _ => hr.mono (by omega)) (fun _ => L2.takes0) (fun _ => by rfl) (fun _ => n__law_draw) (fun _ => q__law_draw) (fun _ => b__law_draw) (DA.cons (DE.var fun _ => pv 0) (DA.cons DE.int DA.nil)))) DA.nil))) DA.nil))))))) fun ds Kd Kx n hl h => ?_
  obtain ⟨rfl, hn, hk⟩ := h
  rw [s_body, s_seq, s_asg]
  refine And.intro (fits_small (k := List.length VALS) (Nat.le_of_ble_eq_true rfl)) ?_
  dsimp only
  rw [w_pure]
  show onE _ _ _ [some (.d .pen), some (.d (.lst VALS)), none] n
  have hk2 : ∀ L : List D, L = VALS → (∀ d ∈ L, Kd d (n + 1 + 1 + 1 + 1)) ∧ L.length = 14 := fun L e => ⟨fun d hd => hk d (.inl (e ▸ hd)), by rw [e]; rfl⟩
  obtain ⟨L, hL⟩ : ∃ L, L = VALS := ⟨_, rfl⟩
  obtain ⟨hk3, l14⟩ := hk2 L hL
  rw [← hL]
  clear hk2 hL
  rw [s_onE]
  simp only [w_bind, w_pure, w_calm, w_need, g_0, g_s, s_lc, range_at]
  refine ⟨⟨by decide, by decide⟩, ?_⟩
  show lcD _ _ _ [.int 0, .int 1, .int 2] [some (.d .pen), some (.d (.lst L)), none] _ _ _ _
  simp only [lcD, dName, List.length_cons, List.length_nil, Nat.reduceLT, Nat.reduceAdd, if_true, w_bind, w_pure, w_calm, w_need, g_0, g_s, List.set_cons_succ, List.set_cons_zero]
  refine ⟨trivial, by decide, by decide, by omega, fun x x0 x9 => ⟨by rw [sizeLine_eq]; decide, trivial, by decide, by decide, by omega, fun y y0 y9 => ⟨by rw [sizeLine_eq]; simp, trivial, by decide, by decide, by omega, fun z z0 z9 => ?_⟩⟩⟩
  refine ⟨by rw [sizeLine_eq]; simp, fits_small (by decide), ?_⟩
  show Fits (L.length + 1) ∧ (True ∧ w__law_pick [D.pen, .lst (L ++ [.lst [.int x, .int y, .int z]])] _ _ _)
  refine ⟨fits_small (by rw [l14]; decide), trivial, ⟨?_, ?_, by omega⟩, fun d hd => ?_⟩
  · simp
  · simp [l14]
  · rcases List.mem_append.mp hd with hd | hd
    · exact hk3 d hd
    · cases List.mem_singleton.mp hd
      refine hk _ (.inr ⟨x.toNat, y.toNat, z.toNat, by omega, by omega, by omega, ?_⟩)
      rw [Int.toNat_of_nonneg x0, Int.toNat_of_nonneg y0, Int.toNat_of_nonneg z0]


theorem ok__law_copy  (F : DefF K mg "_law_copy" s__law_copy ["value"]) (m_list : mg "list" = none) (m_isinstance : mg "isinstance" = none) (m_tuple : mg "tuple" = none) : DefG P w K mg base "_law_copy" ["value"] (0 + 1) wCopied := by
  refine def_ok (k := 0) F sc__law_copy (fun f cdv A outer s H E hg hr => (DSs.one (DS.ret (DE.ifExp (DT.val (DE.isi1 (fun _ => rfl) (fun _ => pe_bltn (v := .ty "list") (by rfl) m_list (by decide +kernel) rfl) (.ty "list") (fun _ => by rfl) (fun _ => m_isinstance) (DE.var fun _ => pv 0))) (DE.opL (fun _ _ ha => pe_callTy call_tuple_of (by rfl) m_tuple (by decide +kernel) ha) sem_tuple (DA.cons (DE.var fun _ => pv 0) DA.nil)) (DE.var fun _ => pv 0))))) fun ds Kd Kx n hl h => ?_
  obtain ⟨d, rfl, hb, hk⟩ := h
  rw [s_body, s_onE]
  simp only [w_bind, w_pure, w_calm, g_0, g_s, List.map_cons, List.map_nil, List.cons_append, isi_list hb]
  cases d <;> exact hk


theorem ok__law_fields  (F : DefF K mg "_law_fields" s__law_fields ["one"]) (mC_Leaf : mg "Leaf" = some (.ref C_Leaf)) (m_isinstance : mg "isinstance" = none) (ct : clsTB K (CT C_Always C_Fails C_NoDrawing C_Found C_Model C_Paper C_Leaf C_Inverse C_Nothing C_Split) = true) (mC_Paper : mg "Paper" = some (.ref C_Paper)) (mC_Model : mg "Model" = some (.ref C_Model)) (mC_Found : mg "Found" = some (.ref C_Found)) (mC_NoDrawing : mg "NoDrawing" = some (.ref C_NoDrawing)) (mC_Fails : mg "Fails" = some (.ref C_Fails)) (mC_Always : mg "Always" = some (.ref C_Always)) : DefG P w K mg base "_law_fields" ["one"] (0 + 1) (w_fields (CT C_Always C_Fails C_NoDrawing C_Found C_Model C_Paper C_Leaf C_Inverse C_Nothing C_Split)) := by
  refine def_ok (k := 0) F sc__law_fields (fun f cdv A outer s H E hg hr => (DSs.cons (DS.ifS (DT.val (DE.isi1 (fun _ => rfl) (fun _ => pe_glob (v := .ref C_Always) (by rfl) mC_Always rfl) (.own C_Always) (fun _ => by rfl) (fun _ => m_isinstance) (DE.var fun _ => pv 0))) (DSs.one (DS.ret (DE.lst (DA.cons DE.str (DA.cons (DE.fld (fun _ => rfl) (DE.var fun _ => pv 0)) DA.nil))))) DSs.nil)
    (DSs.cons (DS.ifS (DT.val (DE.isi1 (fun _ => rfl) (fun _ => pe_glob (v := .ref C_Fails) (by rfl) mC_Fails rfl) (.own C_Fails) (fun _ => by rfl) (fun _ => m_isinstance) (DE.var fun _ => pv 0))) (DSs.one (DS.ret (DE.lst (DA.cons DE.str (DA.cons (DE.fld (fun _ => rfl) (DE.var fun _ => pv 0)) (DA.cons (DE.fld (fun _ => rfl) (DE.var fun _ => pv 0)) DA.nil)))))) DSs.nil)
    (DSs.cons (DS.ifS (DT.val (DE.isi1 (fun _ => rfl) (fun _ => pe_glob (v := .ref C_NoDrawing) (by rfl) mC_NoDrawing rfl) (.own C_NoDrawing) (fun _ => by rfl) (fun _ => m_isinstance) (DE.var fun _ => pv 0))) (DSs.one (DS.ret (DE.lst (DA.cons DE.str (DA.cons (DE.fld (fun _ => rfl) (DE.var fun _ => pv 0)) DA.nil))))) DSs.nil)
    (DSs.cons (DS.ifS (DT.val (DE.isi1 (fun _ => rfl) (fun _ => pe_glob (v := .ref C_Found) (by rfl) mC_Found rfl) (.own C_Found) (fun _ => by rfl) (fun _ => m_isinstance) (DE.var fun _ => pv 0))) (DSs.one (DS.ret (DE.lst (DA.cons DE.str (DA.cons (DE.fld (fun _ => rfl) (DE.var fun _ => pv 0)) (DA.cons (DE.fld (fun _ => rfl) (DE.var fun _ => pv 0)) (DA.cons (DE.fld (fun _ => rfl) (DE.var fun _ => pv 0)) DA.nil))))))) DSs.nil)
    (DSs.cons (DS.ifS (DT.val (DE.isi1 (fun _ => rfl) (fun _ => pe_glob (v := .ref C_Model) (by rfl) mC_Model rfl) (.own C_Model) (fun _ => by rfl) (fun _ => m_isinstance) (DE.var fun _ => pv 0))) (DSs.one (DS.ret (DE.lst (DA.cons DE.str (DA.cons (DE.fld (fun _ => rfl) (DE.var fun _ => pv 0)) (DA.cons (DE.fld (fun _ => rfl) (DE.var fun _ => pv 0)) DA.nil)))))) DSs.nil)
    (DSs.cons (DS.ifS (DT.val (DE.isi1 (fun _ => rfl) (fun _ => pe_glob (v := .ref C_Paper) (by rfl) mC_Paper rfl) (.own C_Paper) (fun _ => by rfl) (fun _ => m_isinstance) (DE.var fun _ => pv 0))) (DSs.one (DS.ret (DE.lst (DA.cons DE.str (DA.cons (DE.fld (fun _ => rfl) (DE.var fun _ => pv 0)) (DA.cons (DE.fld (fun _ => rfl) (DE.var fun _ => pv 0)) (DA.cons (DE.fld (fun _ => rfl) (DE.var fun _ => pv 0)) (DA.cons (DE.fld (fun _ => rfl) (DE.var fun _ => pv 0)) DA.nil)))))))) DSs.nil)
    (DSs.cons (DS.ifS (DT.val (DE.isi1 (fun _ => rfl) (fun _ => pe_glob (v := .ref C_Leaf) (by rfl) mC_Leaf rfl) (.own C_Leaf) (fun _ => by rfl) (fun _ => m_isinstance) (DE.var fun _ => pv 0))) (DSs.one (DS.ret (DE.lst (DA.cons DE.str (DA.cons (DE.fld (fun _ => rfl) (DE.var fun _ => pv 0)) (DA.cons (DE.fld (fun _ => rfl) (DE.var fun _ => pv 0)) (DA.cons (DE.fld (fun _ => rfl) (DE.var fun _ => pv 0)) (DA.cons (DE.fld (fun _ => rfl) (DE.var fun _ => pv 0)) (DA.cons (DE.fld (fun _ => rfl) (DE.var fun _ => pv 0)) DA.nil))))))))) DSs.nil)
    (DSs.one (DS.ret (DE.cst (.lst [.str "other"]) (by rfl)))))))))))) fun ds Kd Kx n hl h => ?_
  obtain ⟨r, xs, rfl, hx, hr, hk⟩ := h
  dsimp only [CT, List.take] at hr
  simp only [List.mem_cons, List.not_mem_nil, or_false] at hr
  rcases hr with rfl | rfl | rfl | rfl | rfl | rfl | rfl
  · dsimp only at hx hk ⊢
    match xs, hx, hk with
    | [x0], _, hk =>
    have i_Always : ∀ (Kd : D → Nat → Prop) (X : XD → Nat → Prop) (n : Nat), fIsi1 K (.ref C_Always) (.obj C_Always fs_Always [x0]) Kd X n = Kd (.bl true) n := fun Kd X n => isi_row (p := (("Always", C_Always, fs_Always, true) : CRow)) (q := (("Always", C_Always, fs_Always, true) : CRow)) ct row_Always row_Always
    rw [s_body]
    rw [s_seq]
    simp only [s_onT, s_onE, w_bind, w_pure, w_calm, w_need, g_0, g_s, List.map_cons, List.map_nil, List.cons_append, i_Always, fe_Always_unless ct]
    refine ifT (by simp) ?_
    exact ⟨fits_small (by simp), hk⟩
  · dsimp only at hx hk ⊢
    match xs, hx, hk with
    | [x0, x1], _, hk =>
    have i_Always : ∀ (Kd : D → Nat → Prop) (X : XD → Nat → Prop) (n : Nat), fIsi1 K (.ref C_Always) (.obj C_Fails fs_Fails [x0, x1]) Kd X n = Kd (.bl false) n := fun Kd X n => isi_row (p := (("Fails", C_Fails, fs_Fails, false) : CRow)) (q := (("Always", C_Always, fs_Always, true) : CRow)) ct row_Fails row_Always
    have i_Fails : ∀ (Kd : D → Nat → Prop) (X : XD → Nat → Prop) (n : Nat), fIsi1 K (.ref C_Fails) (.obj C_Fails fs_Fails [x0, x1]) Kd X n = Kd (.bl true) n := fun Kd X n => isi_row (p := (("Fails", C_Fails, fs_Fails, false) : CRow)) (q := (("Fails", C_Fails, fs_Fails, false) : CRow)) ct row_Fails row_Fails
    rw [s_body]
    rw [s_seq]
    simp only [s_onT, w_bind, w_pure, w_calm, w_need, g_0, g_s, List.map_cons, List.map_nil, List.cons_append, i_Always]
    refine ifF (by simp) ?_
    try simp only [s_next]
    rw [s_seq]
    simp only [s_onT, s_onE, w_bind, w_pure, w_calm, w_need, g_0, g_s, List.map_cons, List.map_nil, List.cons_append, i_Fails, fe_Fails_row ct, fe_Fails_leaf ct]
    refine ifT (by simp) ?_
    exact ⟨fits_small (by simp), hk⟩
  · dsimp only at hx hk ⊢
    match xs, hx, hk with
    | [x0], _, hk =>
    have i_Always : ∀ (Kd : D → Nat → Prop) (X : XD → Nat → Prop) (n : Nat), fIsi1 K (.ref C_Always) (.obj C_NoDrawing fs_NoDrawing [x0]) Kd X n = Kd (.bl false) n := fun Kd X n => isi_row (p := (("NoDrawing", C_NoDrawing, fs_NoDrawing, true) : CRow)) (q := (("Always", C_Always, fs_Always, true) : CRow)) ct row_NoDrawing row_Always
    have i_Fails : ∀ (Kd : D → Nat → Prop) (X : XD → Nat → Prop) (n : Nat), fIsi1 K (.ref C_Fails) (.obj C_NoDrawing fs_NoDrawing [x0]) Kd X n = Kd (.bl false) n := fun Kd X n => isi_row (p := (("NoDrawing", C_NoDrawing, fs_NoDrawing, true) : CRow)) (q := (("Fails", C_Fails, fs_Fails, false) : CRow)) ct row_NoDrawing row_Fails
    have i_NoDrawing : ∀ (Kd : D → Nat → Prop) (X : XD → Nat → Prop) (n : Nat), fIsi1 K (.ref C_NoDrawing) (.obj C_NoDrawing fs_NoDrawing [x0]) Kd X n = Kd (.bl true) n := fun Kd X n => isi_row (p := (("NoDrawing", C_NoDrawing, fs_NoDrawing, true) : CRow)) (q := (("NoDrawing", C_NoDrawing, fs_NoDrawing, true) : CRow)) ct row_NoDrawing row_NoDrawing
    rw [s_body]
    rw [s_seq]
    simp only [s_onT, w_bind, w_pure, w_calm, w_need, g_0, g_s, List.map_cons, List.map_nil, List.cons_append, i_Always]
    refine ifF (by simp) ?_
    try simp only [s_next]
    rw [s_seq]
    simp only [s_onT, w_bind, w_pure, w_calm, w_need, g_0, g_s, List.map_cons, List.map_nil, List.cons_append, i_Fails]
    refine ifF (by simp) ?_
    try simp only [s_next]
    rw [s_seq]
    simp only [s_onT, s_onE, w_bind, w_pure, w_calm, w_need, g_0, g_s, List.map_cons, List.map_nil, List.cons_append, i_NoDrawing, fe_NoDrawing_step ct]
    refine ifT (by simp) ?_
    exact ⟨fits_small (by simp), hk⟩
  · dsimp only at hx hk ⊢
    match xs, hx, hk with
    | [x0, x1, x2], _, hk =>
    have i_Always : ∀ (Kd : D → Nat → Prop) (X : XD → Nat → Prop) (n : Nat), fIsi1 K (.ref C_Always) (.obj C_Found fs_Found [x0, x1, x2]) Kd X n = Kd (.bl false) n := fun Kd X n => isi_row (p := (("Found", C_Found, fs_Found, false) : CRow)) (q := (("Always", C_Always, fs_Always, true) : CRow)) ct row_Found row_Always
    have i_Fails : ∀ (Kd : D → Nat → Prop) (X : XD → Nat → Prop) (n : Nat), fIsi1 K (.ref C_Fails) (.obj C_Found fs_Found [x0, x1, x2]) Kd X n = Kd (.bl false) n := fun Kd X n => isi_row (p := (("Found", C_Found, fs_Found, false) : CRow)) (q := (("Fails", C_Fails, fs_Fails, false) : CRow)) ct row_Found row_Fails
    have i_NoDrawing : ∀ (Kd : D → Nat → Prop) (X : XD → Nat → Prop) (n : Nat), fIsi1 K (.ref C_NoDrawing) (.obj C_Found fs_Found [x0, x1, x2]) Kd X n = Kd (.bl false) n := fun Kd X n => isi_row (p := (("Found", C_Found, fs_Found, false) : CRow)) (q := (("NoDrawing", C_NoDrawing, fs_NoDrawing, true) : CRow)) ct row_Found row_NoDrawing
    have i_Found : ∀ (Kd : D → Nat → Prop) (X : XD → Nat → Prop) (n : Nat), fIsi1 K (.ref C_Found) (.obj C_Found fs_Found [x0, x1, x2]) Kd X n = Kd (.bl true) n := fun Kd X n => isi_row (p := (("Found", C_Found, fs_Found, false) : CRow)) (q := (("Found", C_Found, fs_Found, false) : CRow)) ct row_Found row_Found
    rw [s_body]
    rw [s_seq]
    simp only [s_onT, w_bind, w_pure, w_calm, w_need, g_0, g_s, List.map_cons, List.map_nil, List.cons_append, i_Always]
    refine ifF (by simp) ?_
    try simp only [s_next]
    rw [s_seq]
    simp only [s_onT, w_bind, w_pure, w_calm, w_need, g_0, g_s, List.map_cons, List.map_nil, List.cons_append, i_Fails]
    refine ifF (by simp) ?_
    try simp only [s_next]
    rw [s_seq]
    simp only [s_onT, w_bind, w_pure, w_calm, w_need, g_0, g_s, List.map_cons, List.map_nil, List.cons_append, i_NoDrawing]
    refine ifF (by simp) ?_
    try simp only [s_next]
    rw [s_seq]
    simp only [s_onT, s_onE, w_bind, w_pure, w_calm, w_need, g_0, g_s, List.map_cons, List.map_nil, List.cons_append, i_Found, fe_Found_claims ct, fe_Found_answers ct, fe_Found_paper ct]
    refine ifT (by simp) ?_
    exact ⟨fits_small (by simp), hk⟩
  · dsimp only at hx hk ⊢
    match xs, hx, hk with
    | [x0, x1], _, hk =>
    have i_Always : ∀ (Kd : D → Nat → Prop) (X : XD → Nat → Prop) (n : Nat), fIsi1 K (.ref C_Always) (.obj C_Model fs_Model [x0, x1]) Kd X n = Kd (.bl false) n := fun Kd X n => isi_row (p := (("Model", C_Model, fs_Model, false) : CRow)) (q := (("Always", C_Always, fs_Always, true) : CRow)) ct row_Model row_Always
    have i_Fails : ∀ (Kd : D → Nat → Prop) (X : XD → Nat → Prop) (n : Nat), fIsi1 K (.ref C_Fails) (.obj C_Model fs_Model [x0, x1]) Kd X n = Kd (.bl false) n := fun Kd X n => isi_row (p := (("Model", C_Model, fs_Model, false) : CRow)) (q := (("Fails", C_Fails, fs_Fails, false) : CRow)) ct row_Model row_Fails
    have i_NoDrawing : ∀ (Kd : D → Nat → Prop) (X : XD → Nat → Prop) (n : Nat), fIsi1 K (.ref C_NoDrawing) (.obj C_Model fs_Model [x0, x1]) Kd X n = Kd (.bl false) n := fun Kd X n => isi_row (p := (("Model", C_Model, fs_Model, false) : CRow)) (q := (("NoDrawing", C_NoDrawing, fs_NoDrawing, true) : CRow)) ct row_Model row_NoDrawing
    have i_Found : ∀ (Kd : D → Nat → Prop) (X : XD → Nat → Prop) (n : Nat), fIsi1 K (.ref C_Found) (.obj C_Model fs_Model [x0, x1]) Kd X n = Kd (.bl false) n := fun Kd X n => isi_row (p := (("Model", C_Model, fs_Model, false) : CRow)) (q := (("Found", C_Found, fs_Found, false) : CRow)) ct row_Model row_Found
    have i_Model : ∀ (Kd : D → Nat → Prop) (X : XD → Nat → Prop) (n : Nat), fIsi1 K (.ref C_Model) (.obj C_Model fs_Model [x0, x1]) Kd X n = Kd (.bl true) n := fun Kd X n => isi_row (p := (("Model", C_Model, fs_Model, false) : CRow)) (q := (("Model", C_Model, fs_Model, false) : CRow)) ct row_Model row_Model
    rw [s_body]
    rw [s_seq]
    simp only [s_onT, w_bind, w_pure, w_calm, w_need, g_0, g_s, List.map_cons, List.map_nil, List.cons_append, i_Always]
    refine ifF (by simp) ?_
    try simp only [s_next]
    rw [s_seq]
    simp only [s_onT, w_bind, w_pure, w_calm, w_need, g_0, g_s, List.map_cons, List.map_nil, List.cons_append, i_Fails]
    refine ifF (by simp) ?_
    try simp only [s_next]
    rw [s_seq]
    simp only [s_onT, w_bind, w_pure, w_calm, w_need, g_0, g_s, List.map_cons, List.map_nil, List.cons_append, i_NoDrawing]
    refine ifF (by simp) ?_
    try simp only [s_next]
    rw [s_seq]
    simp only [s_onT, w_bind, w_pure, w_calm, w_need, g_0, g_s, List.map_cons, List.map_nil, List.cons_append, i_Found]
    refine ifF (by simp) ?_
    try simp only [s_next]
    rw [s_seq]
    simp only [s_onT, s_onE, w_bind, w_pure, w_calm, w_need, g_0, g_s, List.map_cons, List.map_nil, List.cons_append, i_Model, fe_Model_steps ct, fe_Model_claims ct]
    refine ifT (by simp) ?_
    exact ⟨fits_small (by simp), hk⟩
  · dsimp only at hx hk ⊢
    match xs, hx, hk with
    | [x0, x1, x2, x3], _, hk =>
    have i_Always : ∀ (Kd : D → Nat → Prop) (X : XD → Nat → Prop) (n : Nat), fIsi1 K (.ref C_Always) (.obj C_Paper fs_Paper [x0, x1, x2, x3]) Kd X n = Kd (.bl false) n := fun Kd X n => isi_row (p := (("Paper", C_Paper, fs_Paper, false) : CRow)) (q := (("Always", C_Always, fs_Always, true) : CRow)) ct row_Paper row_Always
    have i_Fails : ∀ (Kd : D → Nat → Prop) (X : XD → Nat → Prop) (n : Nat), fIsi1 K (.ref C_Fails) (.obj C_Paper fs_Paper [x0, x1, x2, x3]) Kd X n = Kd (.bl false) n := fun Kd X n => isi_row (p := (("Paper", C_Paper, fs_Paper, false) : CRow)) (q := (("Fails", C_Fails, fs_Fails, false) : CRow)) ct row_Paper row_Fails
    have i_NoDrawing : ∀ (Kd : D → Nat → Prop) (X : XD → Nat → Prop) (n : Nat), fIsi1 K (.ref C_NoDrawing) (.obj C_Paper fs_Paper [x0, x1, x2, x3]) Kd X n = Kd (.bl false) n := fun Kd X n => isi_row (p := (("Paper", C_Paper, fs_Paper, false) : CRow)) (q := (("NoDrawing", C_NoDrawing, fs_NoDrawing, true) : CRow)) ct row_Paper row_NoDrawing
    have i_Found : ∀ (Kd : D → Nat → Prop) (X : XD → Nat → Prop) (n : Nat), fIsi1 K (.ref C_Found) (.obj C_Paper fs_Paper [x0, x1, x2, x3]) Kd X n = Kd (.bl false) n := fun Kd X n => isi_row (p := (("Paper", C_Paper, fs_Paper, false) : CRow)) (q := (("Found", C_Found, fs_Found, false) : CRow)) ct row_Paper row_Found
    have i_Model : ∀ (Kd : D → Nat → Prop) (X : XD → Nat → Prop) (n : Nat), fIsi1 K (.ref C_Model) (.obj C_Paper fs_Paper [x0, x1, x2, x3]) Kd X n = Kd (.bl false) n := fun Kd X n => isi_row (p := (("Paper", C_Paper, fs_Paper, false) : CRow)) (q := (("Model", C_Model, fs_Model, false) : CRow)) ct row_Paper row_Model
    have i_Paper : ∀ (Kd : D → Nat → Prop) (X : XD → Nat → Prop) (n : Nat), fIsi1 K (.ref C_Paper) (.obj C_Paper fs_Paper [x0, x1, x2, x3]) Kd X n = Kd (.bl true) n := fun Kd X n => isi_row (p := (("Paper", C_Paper, fs_Paper, false) : CRow)) (q := (("Paper", C_Paper, fs_Paper, false) : CRow)) ct row_Paper row_Paper
    rw [s_body]
    rw [s_seq]
    simp only [s_onT, w_bind, w_pure, w_calm, w_need, g_0, g_s, List.map_cons, List.map_nil, List.cons_append, i_Always]
    refine ifF (by simp) ?_
    try simp only [s_next]
    rw [s_seq]
    simp only [s_onT, w_bind, w_pure, w_calm, w_need, g_0, g_s, List.map_cons, List.map_nil, List.cons_append, i_Fails]
    refine ifF (by simp) ?_
    try simp only [s_next]
    rw [s_seq]
    simp only [s_onT, w_bind, w_pure, w_calm, w_need, g_0, g_s, List.map_cons, List.map_nil, List.cons_append, i_NoDrawing]
    refine ifF (by simp) ?_
    try simp only [s_next]
    rw [s_seq]
    simp only [s_onT, w_bind, w_pure, w_calm, w_need, g_0, g_s, List.map_cons, List.map_nil, List.cons_append, i_Found]
    refine ifF (by simp) ?_
    try simp only [s_next]
    rw [s_seq]
    simp only [s_onT, w_bind, w_pure, w_calm, w_need, g_0, g_s, List.map_cons, List.map_nil, List.cons_append, i_Model]
    refine ifF (by simp) ?_
    try simp only [s_next]
    rw [s_seq]
    simp only [s_onT, s_onE, w_bind, w_pure, w_calm, w_need, g_0, g_s, List.map_cons, List.map_nil, List.cons_append, i_Paper, fe_Paper_unless ct, fe_Paper_shares ct, fe_Paper_leaves ct, fe_Paper_numbers ct]
    refine ifT (by simp) ?_
    exact ⟨fits_small (by simp), hk⟩
  · dsimp only at hx hk ⊢
    match xs, hx, hk with
    | [x0, x1, x2, x3, x4], _, hk =>
    have i_Always : ∀ (Kd : D → Nat → Prop) (X : XD → Nat → Prop) (n : Nat), fIsi1 K (.ref C_Always) (.obj C_Leaf fs_Leaf [x0, x1, x2, x3, x4]) Kd X n = Kd (.bl false) n := fun Kd X n => isi_row (p := (("Leaf", C_Leaf, fs_Leaf, false) : CRow)) (q := (("Always", C_Always, fs_Always, true) : CRow)) ct row_Leaf row_Always
    have i_Fails : ∀ (Kd : D → Nat → Prop) (X : XD → Nat → Prop) (n : Nat), fIsi1 K (.ref C_Fails) (.obj C_Leaf fs_Leaf [x0, x1, x2, x3, x4]) Kd X n = Kd (.bl false) n := fun Kd X n => isi_row (p := (("Leaf", C_Leaf, fs_Leaf, false) : CRow)) (q := (("Fails", C_Fails, fs_Fails, false) : CRow)) ct row_Leaf row_Fails
    have i_NoDrawing : ∀ (Kd : D → Nat → Prop) (X : XD → Nat → Prop) (n : Nat), fIsi1 K (.ref C_NoDrawing) (.obj C_Leaf fs_Leaf [x0, x1, x2, x3, x4]) Kd X n = Kd (.bl false) n := fun Kd X n => isi_row (p := (("Leaf", C_Leaf, fs_Leaf, false) : CRow)) (q := (("NoDrawing", C_NoDrawing, fs_NoDrawing, true) : CRow)) ct row_Leaf row_NoDrawing
    have i_Found : ∀ (Kd : D → Nat → Prop) (X : XD → Nat → Prop) (n : Nat), fIsi1 K (.ref C_Found) (.obj C_Leaf fs_Leaf [x0, x1, x2, x3, x4]) Kd X n = Kd (.bl false) n := fun Kd X n => isi_row (p := (("Leaf", C_Leaf, fs_Leaf, false) : CRow)) (q := (("Found", C_Found, fs_Found, false) : CRow)) ct row_Leaf row_Found
    have i_Model : ∀ (Kd : D → Nat → Prop) (X : XD → Nat → Prop) (n : Nat), fIsi1 K (.ref C_Model) (.obj C_Leaf fs_Leaf [x0, x1, x2, x3, x4]) Kd X n = Kd (.bl false) n := fun Kd X n => isi_row (p := (("Leaf", C_Leaf, fs_Leaf, false) : CRow)) (q := (("Model", C_Model, fs_Model, false) : CRow)) ct row_Leaf row_Model
    have i_Paper : ∀ (Kd : D → Nat → Prop) (X : XD → Nat → Prop) (n : Nat), fIsi1 K (.ref C_Paper) (.obj C_Leaf fs_Leaf [x0, x1, x2, x3, x4]) Kd X n = Kd (.bl false) n := fun Kd X n => isi_row (p := (("Leaf", C_Leaf, fs_Leaf, false) : CRow)) (q := (("Paper", C_Paper, fs_Paper, false) : CRow)) ct row_Leaf row_Paper
    have i_Leaf : ∀ (Kd : D → Nat → Prop) (X : XD → Nat → Prop) (n : Nat), fIsi1 K (.ref C_Leaf) (.obj C_Leaf fs_Leaf [x0, x1, x2, x3, x4]) Kd X n = Kd (.bl true) n := fun Kd X n => isi_row (p := (("Leaf", C_Leaf, fs_Leaf, false) : CRow)) (q := (("Leaf", C_Leaf, fs_Leaf, false) : CRow)) ct row_Leaf row_Leaf
    rw [s_body]
    rw [s_seq]
    simp only [s_onT, w_bind, w_pure, w_calm, w_need, g_0, g_s, List.map_cons, List.map_nil, List.cons_append, i_Always]
    refine ifF (by simp) ?_
    try simp only [s_next]
    rw [s_seq]
    simp only [s_onT, w_bind, w_pure, w_calm, w_need, g_0, g_s, List.map_cons, List.map_nil, List.cons_append, i_Fails]
    refine ifF (by simp) ?_
    try simp only [s_next]
    rw [s_seq]
    simp only [s_onT, w_bind, w_pure, w_calm, w_need, g_0, g_s, List.map_cons, List.map_nil, List.cons_append, i_NoDrawing]
    refine ifF (by simp) ?_
    try simp only [s_next]
    rw [s_seq]
    simp only [s_onT, w_bind, w_pure, w_calm, w_need, g_0, g_s, List.map_cons, List.map_nil, List.cons_append, i_Found]
    refine ifF (by simp) ?_
    try simp only [s_next]
    rw [s_seq]
    simp only [s_onT, w_bind, w_pure, w_calm, w_need, g_0, g_s, List.map_cons, List.map_nil, List.cons_append, i_Model]
    refine ifF (by simp) ?_
    try simp only [s_next]
    rw [s_seq]
    simp only [s_onT, w_bind, w_pure, w_calm, w_need, g_0, g_s, List.map_cons, List.map_nil, List.cons_append, i_Paper]
    refine ifF (by simp) ?_
    try simp only [s_next]
    rw [s_seq]
    simp only [s_onT, s_onE, w_bind, w_pure, w_calm, w_need, g_0, g_s, List.map_cons, List.map_nil, List.cons_append, i_Leaf, fe_Leaf_choices ct, fe_Leaf_tower ct, fe_Leaf_places ct, fe_Leaf_inverses ct, fe_Leaf_void ct]
    refine ifT (by simp) ?_
    exact ⟨fits_small (by simp), hk⟩


theorem ok__law_rows  (F : DefF K mg "_law_rows" s__law_rows ["a", "b", "c", "d"]) (h__law_copy : DefG P w K mg base "_law_copy" ["value"] (1) wCopied) (o_Paper : CtorG P w K mg base "Paper" C_Paper fs_Paper true 2) (o_Model : CtorG P w K mg base "Model" C_Model fs_Model true 2) (o_NoDrawing : CtorG P w K mg base "NoDrawing" C_NoDrawing fs_NoDrawing false 2) (o_Fails : CtorG P w K mg base "Fails" C_Fails fs_Fails true 2) (o_Always : CtorG P w K mg base "Always" C_Always fs_Always false 2) : DefG P w K mg base "_law_rows" ["a", "b", "c", "d"] (3 + 1) (w_rows C_Always C_Fails C_NoDrawing C_Found C_Model C_Paper C_Leaf C_Inverse C_Nothing C_Split) := by
  obtain ⟨f__law_copy, d__law_copy, G__law_copy, n__law_copy, q__law_copy, b__law_copy⟩ := h__law_copy.ex
  obtain ⟨fi_Paper, fd_Paper, ps_Paper, M_Paper, F_Paper, B_Paper, W_Paper, l_Paper, g_Paper⟩ := o_Paper.ex
  obtain ⟨fi_Model, fd_Model, ps_Model, M_Model, F_Model, B_Model, W_Model, l_Model, g_Model⟩ := o_Model.ex
  obtain ⟨fi_NoDrawing, fd_NoDrawing, ps_NoDrawing, M_NoDrawing, F_NoDrawing, B_NoDrawing, W_NoDrawing, l_NoDrawing, g_NoDrawing⟩ := o_NoDrawing.ex
  obtain ⟨fi_Fails, fd_Fails, ps_Fails, M_Fails, F_Fails, B_Fails, W_Fails, l_Fails, g_Fails⟩ := o_Fails.ex
  obtain ⟨fi_Always, fd_Always, ps_Always, M_Always, F_Always, B_Always, W_Always, l_Always, g_Always⟩ := o_Always.ex
  refine def_ok (k := 3) F sc__law_rows (fun f cdv A outer s H E hg hr => (DSs.cons (DS.par (i := 4) (j := 5) (fun _ => rfl) (fun _ => sc__law_rows.nd) (fun _ => rfl) (fun _ => rfl) (by decide) (fun _ => rfl) (fun _ => rfl) (DA.cons (DE.call (fun _ => G__law_copy) (fun _ => hg) (fun _ => hr.mono (by omega)) (fun _ => takes_of rfl rfl rfl rfl) (fun _ => by rfl) (fun _ => n__law_copy) (fun _ => q__law_copy) (fun _ => b__law_copy) (DA.cons (DE.var fun _ => pv 0) DA.nil)) (DA.cons (DE.call (fun _ => G__law_copy) (fun _ => hg) (fun _ => hr.mono (by omega)) (fun _ => takes_of rfl rfl rfl rfl) (fun _ => by rfl) (fun _ => n__law_copy) (fun _ => q__law_copy) (fun _ => b__law_copy) (DA.cons (DE.var fun _ => pv 1) DA.nil)) DA.nil)) (fun _ => by rfl))
    (DSs.cons (DS.own (k := 6) (fun _ => sc__law_rows.nd) (fun _ => rfl) (fun _ => (.inl rfl)) (DA.cons (DE.tup (DA.cons (DE.mkO (fun _ => M_Always) (fun _ => F_Always) (fun _ => hg) (fun _ => hr.mono (by omega)) (fun _ => takes_of rfl rfl rfl rfl) (fun _ => B_Always) (fun _ => by rfl) (fun _ => g_Always) (DA.cons (DE.var fun _ => pv 0) DA.nil)) (DA.cons (DE.mkK (r := false) (fun _ => M_Always) (fun _ => F_Always) (fun _ => hg) (fun _ => hr.mono (by omega)) (fun _ => takes_of rfl rfl rfl rfl) (fun _ => W_Always) l_Always (fun _ => by rfl) (fun _ => g_Always) (DK.cons (DE.var fun _ => pv 0) DK.nil)) (DA.cons (DE.lst (DA.cons DE.str (DA.cons (DE.var fun _ => pv 4) DA.nil))) DA.nil)))) (DA.cons (DE.tup (DA.cons (DE.mkO (fun _ => M_Fails) (fun _ => F_Fails) (fun _ => hg) (fun _ => hr.mono (by omega)) (fun _ => takes_of rfl rfl rfl rfl) (fun _ => B_Fails) (fun _ => by rfl) (fun _ => g_Fails) (DA.cons (DE.var fun _ => pv 0) (DA.cons (DE.var fun _ => pv 1) DA.nil))) (DA.cons (DE.mkK (r := true) (fun _ => M_Fails) (fun _ => F_Fails) (fun _ => hg) (fun _ => hr.mono (by omega)) (fun _ => takes_of rfl rfl rfl rfl) (fun _ => W_Fails) l_Fails (fun _ => by rfl) (fun _ => g_Fails) (DK.cons (DE.var fun _ => pv 1) (DK.cons (DE.var fun _ => pv 0) DK.nil))) (DA.cons (DE.lst (DA.cons DE.str (DA.cons (DE.var fun _ => pv 4) (DA.cons (DE.var fun _ => pv 5) DA.nil)))) DA.nil)))) DA.nil)))
    (DSs.cons (DS.append (k := 6) (fun _ => rfl) (fun _ => pv 6) (DE.tup (DA.cons (DE.mkO (fun _ => M_NoDrawing) (fun _ => F_NoDrawing) (fun _ => hg) (fun _ => hr.mono (by omega)) (fun _ => takes_of rfl rfl rfl rfl) (fun _ => B_NoDrawing) (fun _ => by rfl) (fun _ => g_NoDrawing) (DA.cons (DE.var fun _ => pv 2) DA.nil)) (DA.cons (DE.mkK (r := false) (fun _ => M_NoDrawing) (fun _ => F_NoDrawing) (fun _ => hg) (fun _ => hr.mono (by omega)) (fun _ => takes_of rfl rfl rfl rfl) (fun _ => W_NoDrawing) l_NoDrawing (fun _ => by rfl) (fun _ => g_NoDrawing) (DK.cons (DE.var fun _ => pv 2) DK.nil)) (DA.cons (DE.lst (DA.cons DE.str (DA.cons (DE.call (fun _ => G__law_copy) (fun _ => hg) (fun _ => hr.mono (by omega)) (fun _ => takes_of rfl rfl rfl rfl) (fun _ => by rfl) (fun _ => n__law_copy) (fun _ => q__law_copy) (fun _ => b__law_copy) (DA.cons (DE.var fun _ => pv 2) DA.nil)) DA.nil))) DA.nil)))) (fun _ _ ha => pe_bm PySem.F.plainAttrs_list PySem.F.slot_list_append PySem.F.type_list_append mt_append (pv 6) ha))
    (DSs.cons (DS.append (k := 6) (fun _ => rfl) (fun _ => pv 6) (DE.tup (DA.cons (DE.mkO (fun _ => M_Model) (fun _ => F_Model) (fun _ => hg) (fun _ => hr.mono (by omega)) (fun _ => takes_of rfl rfl rfl rfl) (fun _ => B_Model) (fun _ => by rfl) (fun _ => g_Model) (DA.cons (DE.var fun _ => pv 0) (DA.cons (DE.var fun _ => pv 1) DA.nil))) (DA.cons (DE.mkK (r := true) (fun _ => M_Model) (fun _ => F_Model) (fun _ => hg) (fun _ => hr.mono (by omega)) (fun _ => takes_of rfl rfl rfl rfl) (fun _ => W_Model) l_Model (fun _ => by rfl) (fun _ => g_Model) (DK.cons (DE.var fun _ => pv 1) (DK.cons (DE.var fun _ => pv 0) DK.nil))) (DA.cons (DE.lst (DA.cons DE.str (DA.cons (DE.var fun _ => pv 4) (DA.cons (DE.var fun _ => pv 5) DA.nil)))) DA.nil)))) (fun _ _ ha => pe_bm PySem.F.plainAttrs_list PySem.F.slot_list_append PySem.F.type_list_append mt_append (pv 6) ha))
    (DSs.cons (DS.append (k := 6) (fun _ => rfl) (fun _ => pv 6) (DE.tup (DA.cons (DE.mkO (fun _ => M_Paper) (fun _ => F_Paper) (fun _ => hg) (fun _ => hr.mono (by omega)) (fun _ => takes_of rfl rfl rfl rfl) (fun _ => B_Paper) (fun _ => by rfl) (fun _ => g_Paper) (DA.cons (DE.var fun _ => pv 0) (DA.cons (DE.var fun _ => pv 1) (DA.cons (DE.var fun _ => pv 2) (DA.cons (DE.var fun _ => pv 3) DA.nil))))) (DA.cons (DE.mkK (r := true) (fun _ => M_Paper) (fun _ => F_Paper) (fun _ => hg) (fun _ => hr.mono (by omega)) (fun _ => takes_of rfl rfl rfl rfl) (fun _ => W_Paper) l_Paper (fun _ => by rfl) (fun _ => g_Paper) (DK.cons (DE.var fun _ => pv 3) (DK.cons (DE.var fun _ => pv 2) (DK.cons (DE.var fun _ => pv 1) (DK.cons (DE.var fun _ => pv 0) DK.nil))))) (DA.cons (DE.lst (DA.cons DE.str (DA.cons (DE.var fun _ => pv 4) (DA.cons (DE.var fun _ => pv 5) (DA.cons (DE.call (fun _ => G__law_copy) (fun _ => hg) (fun _ => hr.mono (by omega)) (fun _ => takes_of rfl rfl rfl rfl) (fun _ => by rfl) (fun _ => n__law_copy) (fun _ => q__law_copy) (fun _ => b__law_copy) (DA.cons (DE.var fun _ => pv 2) DA.nil)) (DA.cons (DE.call (fun _ => G__law_copy) (fun _ => hg) (fun _ => hr.mono (by omega)) (fun _ => takes_of rfl rfl rfl rfl) (fun _ => by rfl) (fun _ => n__law_copy) (fun _ => q__law_copy) (fun _ => b__law_copy) (DA.cons (DE.var fun _ => pv 3) DA.nil)) DA.nil)))))) DA.nil)))) (fun _ _ ha => pe_bm PySem.F.plainAttrs_list PySem.F.slot_list_append PySem.F.type_list_append mt_append (pv 6) ha))
    (DSs.freeze 6 (DSs.one (DS.ret (DE.var fun _ => pv 6)))))))))) fun ds Kd Kx n hl h => ?_
  obtain ⟨a, b, c, d, rfl, ha, hb, hc, hd, hk⟩ := h
  rw [s_body, s_seq, s_par]
  simp only [w_bind, w_pure, w_calm, w_need, g_0, g_s, List.map_cons, List.map_nil, List.cons_append]
  refine ⟨rfl, a, rfl, ha, rfl, b, rfl, hb, ?_⟩
  obtain ⟨m0, hm0⟩ : ∃ m0, m0 = n := ⟨_, rfl⟩
  rw [← hm0] at hk ⊢
  show dSeq _ _ _ [some (.d a), some (.d b), some (.d c), some (.d d), some (.d (cpy a)), some (.d (cpy b)), none] m0
  refine seq_split (fun ρ' n' => ρ' = [some (.d a), some (.d b), some (.d c), some (.d d), some (.d (cpy a)), some (.d (cpy b)), some (.ml [D.tup [D.obj C_Always fs_Always [cpy a], D.obj C_Always fs_Always [cpy a], .lst [.str "Always", cpy a]], D.tup [D.obj C_Fails fs_Fails [cpy a, cpy b], D.obj C_Fails fs_Fails [cpy a, cpy b], .lst [.str "Fails", cpy a, cpy b]]])] ∧ n' = m0) ?R1 (fun nx hnx => ?S1)
  case S1 =>
    refine own_intro ?_
    simp only [s_onE, w_bind, w_pure, w_need, w_calm, g_0, g_s]
    exact ⟨rfl, (forall_one ha), rfl, (forall_one ha), fits_small (by simp), fits_small (by simp), rfl, (forall_more ha (forall_one hb)), rfl, (forall_more ha (forall_one hb)), fits_small (by simp), fits_small (by simp), fits_small (by simp), hnx _ _ ⟨rfl, rfl⟩⟩
  intro ρ1 n1 h1
  obtain ⟨e1, e2⟩ := h1
  rw [e1, e2]
  clear e1 e2 ρ1 n1
  refine seq_split (fun ρ' n' => ρ' = [some (.d a), some (.d b), some (.d c), some (.d d), some (.d (cpy a)), some (.d (cpy b)), some (.ml [D.tup [D.obj C_Always fs_Always [cpy a], D.obj C_Always fs_Always [cpy a], .lst [.str "Always", cpy a]], D.tup [D.obj C_Fails fs_Fails [cpy a, cpy b], D.obj C_Fails fs_Fails [cpy a, cpy b], .lst [.str "Fails", cpy a, cpy b]], D.tup [D.obj C_NoDrawing fs_NoDrawing [cpy c], D.obj C_NoDrawing fs_NoDrawing [cpy c], .lst [.str "NoDrawing", cpy c]]])] ∧ n' = m0) ?R2 (fun nx hnx => ?S2)
  case S2 =>
    refine app_intro (ds := [D.tup [D.obj C_Always fs_Always [cpy a], D.obj C_Always fs_Always [cpy a], .lst [.str "Always", cpy a]], D.tup [D.obj C_Fails fs_Fails [cpy a, cpy b], D.obj C_Fails fs_Fails [cpy a, cpy b], .lst [.str "Fails", cpy a, cpy b]]]) rfl ?_
    simp only [s_onE, w_bind, w_pure, w_need, w_calm, g_0, g_s]
    exact ⟨rfl, (forall_one hc), rfl, (forall_one hc), rfl, c, rfl, hc, fits_small (by simp), fits_small (by simp), by rw [sizeLine_eq]; simp, hnx _ _ ⟨rfl, rfl⟩⟩
  intro ρ1 n1 h1
  obtain ⟨e1, e2⟩ := h1
  rw [e1, e2]
  clear e1 e2 ρ1 n1
  refine seq_split (fun ρ' n' => ρ' = [some (.d a), some (.d b), some (.d c), some (.d d), some (.d (cpy a)), some (.d (cpy b)), some (.ml [D.tup [D.obj C_Always fs_Always [cpy a], D.obj C_Always fs_Always [cpy a], .lst [.str "Always", cpy a]], D.tup [D.obj C_Fails fs_Fails [cpy a, cpy b], D.obj C_Fails fs_Fails [cpy a, cpy b], .lst [.str "Fails", cpy a, cpy b]], D.tup [D.obj C_NoDrawing fs_NoDrawing [cpy c], D.obj C_NoDrawing fs_NoDrawing [cpy c], .lst [.str "NoDrawing", cpy c]], D.tup [D.obj C_Model fs_Model [cpy a, cpy b], D.obj C_Model fs_Model [cpy a, cpy b], .lst [.str "Model", cpy a, cpy b]]])] ∧ n' = m0) ?R3 (fun nx hnx => ?S3)
  case S3 =>
    refine app_intro (ds := [D.tup [D.obj C_Always fs_Always [cpy a], D.obj C_Always fs_Always [cpy a], .lst [.str "Always", cpy a]], D.tup [D.obj C_Fails fs_Fails [cpy a, cpy b], D.obj C_Fails fs_Fails [cpy a, cpy b], .lst [.str "Fails", cpy a, cpy b]], D.tup [D.obj C_NoDrawing fs_NoDrawing [cpy c], D.obj C_NoDrawing fs_NoDrawing [cpy c], .lst [.str "NoDrawing", cpy c]]]) rfl ?_
    simp only [s_onE, w_bind, w_pure, w_need, w_calm, g_0, g_s]
    exact ⟨rfl, (forall_more ha (forall_one hb)), rfl, (forall_more ha (forall_one hb)), fits_small (by simp), fits_small (by simp), by rw [sizeLine_eq]; simp, hnx _ _ ⟨rfl, rfl⟩⟩
  intro ρ1 n1 h1
  obtain ⟨e1, e2⟩ := h1
  rw [e1, e2]
  clear e1 e2 ρ1 n1
  refine seq_split (fun ρ' n' => ρ' = [some (.d a), some (.d b), some (.d c), some (.d d), some (.d (cpy a)), some (.d (cpy b)), some (.ml [D.tup [D.obj C_Always fs_Always [cpy a], D.obj C_Always fs_Always [cpy a], .lst [.str "Always", cpy a]], D.tup [D.obj C_Fails fs_Fails [cpy a, cpy b], D.obj C_Fails fs_Fails [cpy a, cpy b], .lst [.str "Fails", cpy a, cpy b]], D.tup [D.obj C_NoDrawing fs_NoDrawing [cpy c], D.obj C_NoDrawing fs_NoDrawing [cpy c], .lst [.str "NoDrawing", cpy c]], D.tup [D.obj C_Model fs_Model [cpy a, cpy b], D.obj C_Model fs_Model [cpy a, cpy b], .lst [.str "Model", cpy a, cpy b]], D.tup [D.obj C_Paper fs_Paper [cpy a, cpy b, cpy c, cpy d], D.obj C_Paper fs_Paper [cpy a, cpy b, cpy c, cpy d], .lst [.str "Paper", cpy a, cpy b, cpy c, cpy d]]])] ∧ n' = m0) ?R4 (fun nx hnx => ?S4)
  case S4 =>
    refine app_intro (ds := [D.tup [D.obj C_Always fs_Always [cpy a], D.obj C_Always fs_Always [cpy a], .lst [.str "Always", cpy a]], D.tup [D.obj C_Fails fs_Fails [cpy a, cpy b], D.obj C_Fails fs_Fails [cpy a, cpy b], .lst [.str "Fails", cpy a, cpy b]], D.tup [D.obj C_NoDrawing fs_NoDrawing [cpy c], D.obj C_NoDrawing fs_NoDrawing [cpy c], .lst [.str "NoDrawing", cpy c]], D.tup [D.obj C_Model fs_Model [cpy a, cpy b], D.obj C_Model fs_Model [cpy a, cpy b], .lst [.str "Model", cpy a, cpy b]]]) rfl ?_
    simp only [s_onE, w_bind, w_pure, w_need, w_calm, g_0, g_s]
    exact ⟨rfl, (forall_more ha (forall_more hb (forall_more hc (forall_one hd)))), rfl, (forall_more ha (forall_more hb (forall_more hc (forall_one hd)))), rfl, c, rfl, hc, rfl, d, rfl, hd, fits_small (by simp), fits_small (by simp), by rw [sizeLine_eq]; simp, hnx _ _ ⟨rfl, rfl⟩⟩
  intro ρ1 n1 h1
  obtain ⟨e1, e2⟩ := h1
  rw [e1, e2]
  clear e1 e2 ρ1 n1
  refine frz_intro rfl ?_
  exact hk


abbrev CELLS (L : Nat) : List (Str × Addr) := cellsFrom (L + 1) (defScope s_law).names []

theorem ok_law {f : Addr} {fd : FuncData} (F : Fun K "law" "law" s_law f fd) (hTe : ∀ C wf, TEqO (CT C_Always C_Fails C_NoDrawing C_Found C_Model C_Paper C_Leaf C_Inverse C_Nothing C_Split) (ER C_Always C_Fails C_NoDrawing C_Model C_Paper C_Leaf) C wf → EqG P w K mg base C "__eq__" 2 wf) (hTn : ∀ C wf, TNeO (CT C_Always C_Fails C_NoDrawing C_Found C_Model C_Paper C_Leaf C_Inverse C_Nothing C_Split) (ER C_Always C_Fails C_NoDrawing C_Model C_Paper C_Leaf) C wf → EqG P w K mg base C "__ne__" 3 wf) (m_repr : mg "repr" = none) (ct : clsTB K (CT C_Always C_Fails C_NoDrawing C_Found C_Model C_Paper C_Leaf C_Inverse C_Nothing C_Split) = true) (m_list : mg "list" = none) (m_isinstance : mg "isinstance" = none) (o_Leaf : CtorG P w K mg base "Leaf" C_Leaf fs_Leaf false 2) (mC_Inverse : mg "Inverse" = some (.ref C_Inverse)) (z_Nothing : Mk0 K C_Nothing) (mC_Nothing : mg "Nothing" = some (.ref C_Nothing)) (o_Inverse : CtorG P w K mg base "Inverse" C_Inverse fs_Inverse false 2) (h__law_fields : DefG P w K mg base "_law_fields" ["one"] (1) (w_fields (CT C_Always C_Fails C_NoDrawing C_Found C_Model C_Paper C_Leaf C_Inverse C_Nothing C_Split))) (h__law_copy : DefG P w K mg base "_law_copy" ["value"] (1) wCopied) (o_Split : CtorG P w K mg base "Split" C_Split fs_Split false 2) (o_Found : CtorG P w K mg base "Found" C_Found fs_Found false 2) (o_Model : CtorG P w K mg base "Model" C_Model fs_Model true 2) (o_NoDrawing : CtorG P w K mg base "NoDrawing" C_NoDrawing fs_NoDrawing false 2) (o_Fails : CtorG P w K mg base "Fails" C_Fails fs_Fails true 2) (o_Always : CtorG P w K mg base "Always" C_Always fs_Always false 2) (m_range : mg "range" = none) (m_len : mg "len" = none) (m_int : mg "int" = none) (h__law_draw : DefG P w K mg base "_law_draw" ["pen", "many"] (1) w__law_draw) (h__law_rows : DefG P w K mg base "_law_rows" ["a", "b", "c", "d"] (4) (w_rows C_Always C_Fails C_NoDrawing C_Found C_Model C_Paper C_Leaf C_Inverse C_Nothing C_Split)) (h__law_value : DefG P w K mg base "_law_value" ["pen"] (3) w__law_value) (h__law_pen : DefG P w K mg base "_law_pen" ["script"] (1) (w__law_pen K)) : FnG P w K mg base 5 f fd ["script"] (spDN 1 (w_law K)) := by
  obtain ⟨fi_Leaf, fd_Leaf, ps_Leaf, M_Leaf, F_Leaf, B_Leaf, W_Leaf, l_Leaf, g_Leaf⟩ := o_Leaf.ex
  obtain ⟨fi_Inverse, fd_Inverse, ps_Inverse, M_Inverse, F_Inverse, B_Inverse, W_Inverse, l_Inverse, g_Inverse⟩ := o_Inverse.ex
  obtain ⟨f__law_fields, d__law_fields, G__law_fields, n__law_fields, q__law_fields, b__law_fields⟩ := h__law_fields.ex
  obtain ⟨f__law_copy, d__law_copy, G__law_copy, n__law_copy, q__law_copy, b__law_copy⟩ := h__law_copy.ex
  obtain ⟨fi_Split, fd_Split, ps_Split, M_Split, F_Split, B_Split, W_Split, l_Split, g_Split⟩ := o_Split.ex
  obtain ⟨fi_Found, fd_Found, ps_Found, M_Found, F_Found, B_Found, W_Found, l_Found, g_Found⟩ := o_Found.ex
  obtain ⟨fi_Model, fd_Model, ps_Model, M_Model, F_Model, B_Model, W_Model, l_Model, g_Model⟩ := o_Model.ex
  obtain ⟨fi_NoDrawing, fd_NoDrawing, ps_NoDrawing, M_NoDrawing, F_NoDrawing, B_NoDrawing, W_NoDrawing, l_NoDrawing, g_NoDrawing⟩ := o_NoDrawing.ex
  obtain ⟨fi_Fails, fd_Fails, ps_Fails, M_Fails, F_Fails, B_Fails, W_Fails, l_Fails, g_Fails⟩ := o_Fails.ex
  obtain ⟨fi_Always, fd_Always, ps_Always, M_Always, F_Always, B_Always, W_Always, l_Always, g_Always⟩ := o_Always.ex
  obtain ⟨f__law_draw, d__law_draw, G__law_draw, n__law_draw, q__law_draw, b__law_draw⟩ := h__law_draw.ex
  obtain ⟨f__law_rows, d__law_rows, G__law_rows, n__law_rows, q__law_rows, b__law_rows⟩ := h__law_rows.ex
  obtain ⟨f__law_value, d__law_value, G__law_value, n__law_value, q__law_value, b__law_value⟩ := h__law_value.ex
  obtain ⟨f__law_pen, d__law_pen, G__law_pen, n__law_pen, q__law_pen, b__law_pen⟩ := h__law_pen.ex
  refine fn_okN (k := 4) F sc_law (fun cdv hcd A outer s H E L hL hg hr => (DSs.cons (DS.set (k := 1) (fun _ => sc_law.nd) (fun _ => rfl) (fun _ => (.inr rfl)) (DE.call (fun _ => G__law_pen) (fun _ => hg) (fun _ => hr.mono (by omega)) (fun _ => takes_of rfl rfl rfl rfl) (fun _ => by rfl) (fun _ => n__law_pen) (fun _ => q__law_pen) (fun _ => b__law_pen) (DA.cons (DE.var fun _ => pv 0) DA.nil)))
    (DSs.cons (DS.setLc (k := 2) (own := [("k", 3)]) (fun _ => rfl) (fun _ => sc_law.nd) (fun _ => rfl) (fun _ => rfl) (fun _ => by rfl) (DI.range1 (fun _ => by rfl) (fun _ => m_range) (DA.cons DE.int DA.nil)) (fun _ => blkOk_by (N := ["script", "pen", "values", "k", "a", "b", "c", "d", "value", "rows", "one", "two", "due", "other", "leaf", "found", "split", "before"]) (sc := defScope s_law) (by decide +kernel)) (DG.name (k := 3) (fun _ => pg_name sc_law.nd rfl (.inl rfl))) DTs.nil (DE.call (fun _ => G__law_value) (fun _ => hg) (fun _ => hr.mono (by omega)) (fun _ => L2.takes0) (fun _ => by rfl) (fun _ => n__law_value) (fun _ => q__law_value) (fun _ => b__law_value) (DA.cons (DE.var fun _ => pv 1) DA.nil)))
    (DSs.cons (DS.asg (DE.lc (own := [("value", 8)]) (fun _ => rfl) (fun _ => sc_law.nd) (DI.seq (fun _ => rfl) (DE.var fun _ => pv 2)) (fun _ => blkOk_by (N := ["script", "pen", "values", "k", "a", "b", "c", "d", "value", "rows", "one", "two", "due", "other", "leaf", "found", "split", "before"]) (sc := defScope s_law) (by decide +kernel)) (DG.name (k := 8) (fun _ => pg_name sc_law.nd rfl (.inl rfl))) DTs.nil (DE.ifExp (DT.val (DE.isi1 (fun _ => rfl) (fun _ => pe_bltn (v := .ty "list") (by rfl) m_list (by decide +kernel) rfl) (.ty "list") (fun _ => by rfl) (fun _ => m_isinstance) (DE.var fun _ => pv 8))) (DE.opL (fun _ _ ha => pe_callTy call_list_of (by rfl) m_list (by decide +kernel) ha) sem_list (DA.cons (DE.var fun _ => pv 8) DA.nil)) (DE.var fun _ => pv 8))) (DG.lst (m := 4) (fun _ => rfl) (fun _ => rfl) (DGs.cons (DG.name (k := 4) (fun _ => pg_name sc_law.nd rfl (.inl rfl))) (DGs.cons (DG.name (k := 5) (fun _ => pg_name sc_law.nd rfl (.inl rfl))) (DGs.cons (DG.name (k := 6) (fun _ => pg_name sc_law.nd rfl (.inl rfl))) (DGs.cons (DG.name (k := 7) (fun _ => pg_name sc_law.nd rfl (.inl rfl))) DGs.nil))))))
    (DSs.cons (DS.set (k := 9) (fun _ => sc_law.nd) (fun _ => rfl) (fun _ => (.inl rfl)) (DE.call (fun _ => G__law_rows) (fun _ => hg) (fun _ => hr.mono (by omega)) (fun _ => takes_of rfl rfl rfl rfl) (fun _ => by rfl) (fun _ => n__law_rows) (fun _ => q__law_rows) (fun _ => b__law_rows) (DA.cons (DE.var fun _ => pv 4) (DA.cons (DE.var fun _ => pv 5) (DA.cons (DE.var fun _ => pv 6) (DA.cons (DE.var fun _ => pv 7) DA.nil))))))
    (DSs.cons (DS.for (fun _ => passes_of rfl) (fun _ => rfl) (DI.seq (fun _ => rfl) (DE.var fun _ => pv 9)) (DG.tup (m := 3) (fun _ => rfl) (fun _ => rfl) (DGs.cons (DG.name (k := 10) (fun _ => pg_name sc_law.nd rfl (.inl rfl))) (DGs.cons (DG.name (k := 11) (fun _ => pg_name sc_law.nd rfl (.inl rfl))) (DGs.cons (DG.name (k := 12) (fun _ => pg_name sc_law.nd rfl (.inl rfl))) DGs.nil)))) (DSs.one (DS.ifS (DW.pt (DW.or (DT.cmp (fun _ => (op_neU (k := 3) hTn hg (hr.mono (by omega)))) sem_neU (DE.opL (fun _ _ ha => pe_callB (call_reprX hg hr.units) (by rfl) m_repr (by decide +kernel) ha) sem_reprX (DA.cons (DE.call (fun _ => G__law_fields) (fun _ => hg) (fun _ => hr.mono (by omega)) (fun _ => takes_of rfl rfl rfl rfl) (fun _ => by rfl) (fun _ => n__law_fields) (fun _ => q__law_fields) (fun _ => b__law_fields) (DA.cons (DE.var fun _ => pv 10) DA.nil)) DA.nil)) (DE.opL (fun _ _ ha => pe_callB (call_reprX hg hr.units) (by rfl) m_repr (by decide +kernel) ha) sem_reprX (DA.cons (DE.var fun _ => pv 12) DA.nil))) (DW.or (DT.cmp (fun _ => (op_neU (k := 3) hTn hg (hr.mono (by omega)))) sem_neU (DE.opL (fun _ _ ha => pe_callB (call_reprX hg hr.units) (by rfl) m_repr (by decide +kernel) ha) sem_reprX (DA.cons (DE.call (fun _ => G__law_fields) (fun _ => hg) (fun _ => hr.mono (by omega)) (fun _ => takes_of rfl rfl rfl rfl) (fun _ => by rfl) (fun _ => n__law_fields) (fun _ => q__law_fields) (fun _ => b__law_fields) (DA.cons (DE.var fun _ => pv 11) DA.nil)) DA.nil)) (DE.opL (fun _ _ ha => pe_callB (call_reprX hg hr.units) (by rfl) m_repr (by decide +kernel) ha) sem_reprX (DA.cons (DE.var fun _ => pv 12) DA.nil))) (DW.or (DT.cmp (fun _ => (op_neU (k := 3) hTn hg (hr.mono (by omega)))) sem_neU (DE.var fun _ => pv 10) (DE.var fun _ => pv 11)) (DW.or1 (DT.not (DT.cmp (fun _ => (op_eqU (k := 2) hTe hg (hr.mono (by omega)))) sem_eqU (DE.var fun _ => pv 10) (DE.var fun _ => pv 11)))))))) (DSs.one (DS.ret DE.bl)) DSs.nil)))
    (DSs.cons (DS.for (fun _ => passes_of rfl) (fun _ => rfl) (DI.range1 (fun _ => by rfl) (fun _ => m_range) (DA.cons (DE.opL (fun _ _ ha => pe_callB call_lenA (by rfl) m_len (by decide +kernel) ha) sem_len (DA.cons (DE.var fun _ => pv 9) DA.nil)) DA.nil)) (DG.name (k := 3) (fun _ => pg_name sc_law.nd rfl (.inl rfl))) (DSs.cons (DS.set (k := 13) (fun _ => sc_law.nd) (fun _ => rfl) (fun _ => (.inl rfl)) (DE.op2 (fun _ _ _ p q => pe_ix ix_seq p q (fun _ _ => rfl)) sem_ix (DE.op2 (fun _ _ _ p q => pe_ix ix_seq p q (fun _ _ => rfl)) sem_ix (DE.var fun _ => pv 9) (DE.op2 (fun _ _ _ p q => pe_op op_modA p q) sem_int (DE.opL (fun _ _ ha => pe_callTy call_int1 (by rfl) m_int (by decide +kernel) ha) sem_intC (DA.cons (DE.op2 (fun _ _ _ p q => pe_op op_addA p q) sem_add (DE.op2 (fun _ _ _ p q => pe_op op_addA p q) sem_add (DE.var fun _ => pv 3) DE.int) (DE.call (fun _ => G__law_draw) (fun _ => hg) (fun _ => hr.mono (by omega)) (fun _ => takes_of rfl rfl rfl rfl) (fun _ => by rfl) (fun _ => n__law_draw) (fun _ => q__law_draw) (fun _ => b__law_draw) (DA.cons (DE.var fun _ => pv 1) (DA.cons (DE.op2 (fun _ _ _ p q => pe_op op_sub p q) sem_int0 (DE.opL (fun _ _ ha => pe_callB call_lenA (by rfl) m_len (by decide +kernel) ha) sem_len (DA.cons (DE.var fun _ => pv 9) DA.nil)) DE.int) DA.nil)))) DA.nil)) (DE.opL (fun _ _ ha => pe_callB call_lenA (by rfl) m_len (by decide +kernel) ha) sem_len (DA.cons (DE.var fun _ => pv 9) DA.nil)))) DE.int))
    (DSs.one (DS.ifS (DW.pt (DW.or (DT.cmp (fun _ => (op_eqU (k := 2) hTe hg (hr.mono (by omega)))) sem_eqU (DE.op2 (fun _ _ _ p q => pe_ix ix_seq p q (fun _ _ => rfl)) sem_ix (DE.op2 (fun _ _ _ p q => pe_ix ix_seq p q (fun _ _ => rfl)) sem_ix (DE.var fun _ => pv 9) (DE.var fun _ => pv 3)) DE.int) (DE.var fun _ => pv 13)) (DW.or1 (DT.not (DT.cmp (fun _ => (op_neU (k := 3) hTn hg (hr.mono (by omega)))) sem_neU (DE.op2 (fun _ _ _ p q => pe_ix ix_seq p q (fun _ _ => rfl)) sem_ix (DE.op2 (fun _ _ _ p q => pe_ix ix_seq p q (fun _ _ => rfl)) sem_ix (DE.var fun _ => pv 9) (DE.var fun _ => pv 3)) DE.int) (DE.var fun _ => pv 13)))))) (DSs.one (DS.ret DE.bl)) DSs.nil))))
    (DSs.cons (DS.ifS (DW.pt (DW.or (DT.cmp (fun _ => (op_eqU (k := 2) hTe hg (hr.mono (by omega)))) sem_eqU (DE.mkO (fun _ => M_Always) (fun _ => F_Always) (fun _ => hg) (fun _ => hr.mono (by omega)) (fun _ => takes_of rfl rfl rfl rfl) (fun _ => B_Always) (fun _ => by rfl) (fun _ => g_Always) (DA.cons (DE.cst (.tup [.int 1]) (by rfl)) DA.nil)) (DE.mkO (fun _ => M_Always) (fun _ => F_Always) (fun _ => hg) (fun _ => hr.mono (by omega)) (fun _ => takes_of rfl rfl rfl rfl) (fun _ => B_Always) (fun _ => by rfl) (fun _ => g_Always) (DA.cons (DE.cst (.tup [.int 2]) (by rfl)) DA.nil))) (DW.or (DT.cmp (fun _ => (op_eqU (k := 2) hTe hg (hr.mono (by omega)))) sem_eqU (DE.mkO (fun _ => M_Fails) (fun _ => F_Fails) (fun _ => hg) (fun _ => hr.mono (by omega)) (fun _ => takes_of rfl rfl rfl rfl) (fun _ => B_Fails) (fun _ => by rfl) (fun _ => g_Fails) (DA.cons (DE.cst (.tup []) (by rfl)) (DA.cons DE.int DA.nil))) (DE.mkO (fun _ => M_Fails) (fun _ => F_Fails) (fun _ => hg) (fun _ => hr.mono (by omega)) (fun _ => takes_of rfl rfl rfl rfl) (fun _ => B_Fails) (fun _ => by rfl) (fun _ => g_Fails) (DA.cons (DE.cst (.tup []) (by rfl)) (DA.cons DE.int DA.nil)))) (DW.or (DT.cmp (fun _ => (op_eqU (k := 2) hTe hg (hr.mono (by omega)))) sem_eqU (DE.mkO (fun _ => M_NoDrawing) (fun _ => F_NoDrawing) (fun _ => hg) (fun _ => hr.mono (by omega)) (fun _ => takes_of rfl rfl rfl rfl) (fun _ => B_NoDrawing) (fun _ => by rfl) (fun _ => g_NoDrawing) (DA.cons DE.int DA.nil)) (DE.mkO (fun _ => M_NoDrawing) (fun _ => F_NoDrawing) (fun _ => hg) (fun _ => hr.mono (by omega)) (fun _ => takes_of rfl rfl rfl rfl) (fun _ => B_NoDrawing) (fun _ => by rfl) (fun _ => g_NoDrawing) (DA.cons DE.int DA.nil))) (DW.or1 (DT.cmp (fun _ => (op_eqU (k := 2) hTe hg (hr.mono (by omega)))) sem_eqU (DE.mkO (fun _ => M_Model) (fun _ => F_Model) (fun _ => hg) (fun _ => hr.mono (by omega)) (fun _ => takes_of rfl rfl rfl rfl) (fun _ => B_Model) (fun _ => by rfl) (fun _ => g_Model) (DA.cons (DE.cst (.tup []) (by rfl)) (DA.cons (DE.cst (.tup []) (by rfl)) DA.nil))) (DE.mkO (fun _ => M_Model) (fun _ => F_Model) (fun _ => hg) (fun _ => hr.mono (by omega)) (fun _ => takes_of rfl rfl rfl rfl) (fun _ => B_Model) (fun _ => by rfl) (fun _ => g_Model) (DA.cons (DE.cst (.tup []) (by rfl)) (DA.cons (DE.cst (.tup [.int 1]) (by rfl)) DA.nil))))))))) (DSs.one (DS.ret DE.bl)) DSs.nil)
    (DSs.cons (DS.par3 (i := 14) (j := 15) (l := 16) (fun _ => rfl) (fun _ => sc_law.nd) (fun _ => rfl) (fun _ => rfl) (fun _ => rfl) (by decide) (by decide) (by decide) (fun _ => rfl) (fun _ => rfl) (fun _ => rfl) (DA.cons (DE.mkO (fun _ => M_Leaf) (fun _ => F_Leaf) (fun _ => hg) (fun _ => hr.mono (by omega)) (fun _ => takes_of rfl rfl rfl rfl) (fun _ => B_Leaf) (fun _ => by rfl) (fun _ => g_Leaf) (DA.cons (DE.var fun _ => pv 4) (DA.cons (DE.var fun _ => pv 7) (DA.cons (DE.var fun _ => pv 5) (DA.cons (DE.var fun _ => pv 6) (DA.cons (DE.var fun _ => pv 7) DA.nil)))))) (DA.cons (DE.mkO (fun _ => M_Found) (fun _ => F_Found) (fun _ => hg) (fun _ => hr.mono (by omega)) (fun _ => takes_of rfl rfl rfl rfl) (fun _ => B_Found) (fun _ => by rfl) (fun _ => g_Found) (DA.cons (DE.var fun _ => pv 4) (DA.cons (DE.var fun _ => pv 5) (DA.cons DE.int DA.nil)))) (DA.cons (DE.mkO (fun _ => M_Split) (fun _ => F_Split) (fun _ => hg) (fun _ => hr.mono (by omega)) (fun _ => takes_of rfl rfl rfl rfl) (fun _ => B_Split) (fun _ => by rfl) (fun _ => g_Split) (DA.cons DE.int (DA.cons DE.int DA.nil))) DA.nil))) (fun _ => by rfl))
    (DSs.cons (DS.ifS (DT.cmp (fun _ => (op_neU (k := 3) hTn hg (hr.mono (by omega)))) sem_neU (DE.opL (fun _ _ ha => pe_callB (call_reprX hg hr.units) (by rfl) m_repr (by decide +kernel) ha) sem_reprX (DA.cons (DE.call (fun _ => G__law_fields) (fun _ => hg) (fun _ => hr.mono (by omega)) (fun _ => takes_of rfl rfl rfl rfl) (fun _ => by rfl) (fun _ => n__law_fields) (fun _ => q__law_fields) (fun _ => b__law_fields) (DA.cons (DE.var fun _ => pv 14) DA.nil)) DA.nil)) (DE.opL (fun _ _ ha => pe_callB (call_reprX hg hr.units) (by rfl) m_repr (by decide +kernel) ha) sem_reprX (DA.cons (DE.lst (DA.cons DE.str (DA.cons (DE.call (fun _ => G__law_copy) (fun _ => hg) (fun _ => hr.mono (by omega)) (fun _ => takes_of rfl rfl rfl rfl) (fun _ => by rfl) (fun _ => n__law_copy) (fun _ => q__law_copy) (fun _ => b__law_copy) (DA.cons (DE.var fun _ => pv 4) DA.nil)) (DA.cons (DE.call (fun _ => G__law_copy) (fun _ => hg) (fun _ => hr.mono (by omega)) (fun _ => takes_of rfl rfl rfl rfl) (fun _ => by rfl) (fun _ => n__law_copy) (fun _ => q__law_copy) (fun _ => b__law_copy) (DA.cons (DE.var fun _ => pv 7) DA.nil)) (DA.cons (DE.call (fun _ => G__law_copy) (fun _ => hg) (fun _ => hr.mono (by omega)) (fun _ => takes_of rfl rfl rfl rfl) (fun _ => by rfl) (fun _ => n__law_copy) (fun _ => q__law_copy) (fun _ => b__law_copy) (DA.cons (DE.var fun _ => pv 5) DA.nil)) (DA.cons (DE.call (fun _ => G__law_copy) (fun _ => hg) (fun _ => hr.mono (by omega)) (fun _ => takes_of rfl rfl rfl rfl) (fun _ => by rfl) (fun _ => n__law_copy) (fun _ => q__law_copy) (fun _ => b__law_copy) (DA.cons (DE.var fun _ => pv 6) DA.nil)) (DA.cons (DE.call (fun _ => G__law_copy) (fun _ => hg) (fun _ => hr.mono (by omega)) (fun _ => takes_of rfl rfl rfl rfl) (fun _ => by rfl) (fun _ => n__law_copy) (fun _ => q__law_copy) (fun _ => b__law_copy) (DA.cons (DE.var fun _ => pv 7) DA.nil)) DA.nil))))))) DA.nil))) (DSs.one (DS.ret DE.bl)) DSs.nil)
    (DSs.cons (DS.ifS (DW.pt (DW.or (DT.cmp (fun _ => (op_neU (k := 3) hTn hg (hr.mono (by omega)))) sem_neU (DE.opL (fun _ _ ha => pe_callB (call_reprX hg hr.units) (by rfl) m_repr (by decide +kernel) ha) sem_reprX (DA.cons (DE.call (fun _ => G__law_fields) (fun _ => hg) (fun _ => hr.mono (by omega)) (fun _ => takes_of rfl rfl rfl rfl) (fun _ => by rfl) (fun _ => n__law_fields) (fun _ => q__law_fields) (fun _ => b__law_fields) (DA.cons (DE.var fun _ => pv 15) DA.nil)) DA.nil)) (DE.opL (fun _ _ ha => pe_callB (call_reprX hg hr.units) (by rfl) m_repr (by decide +kernel) ha) sem_reprX (DA.cons (DE.lst (DA.cons DE.str (DA.cons (DE.call (fun _ => G__law_copy) (fun _ => hg) (fun _ => hr.mono (by omega)) (fun _ => takes_of rfl rfl rfl rfl) (fun _ => by rfl) (fun _ => n__law_copy) (fun _ => q__law_copy) (fun _ => b__law_copy) (DA.cons (DE.var fun _ => pv 4) DA.nil)) (DA.cons (DE.call (fun _ => G__law_copy) (fun _ => hg) (fun _ => hr.mono (by omega)) (fun _ => takes_of rfl rfl rfl rfl) (fun _ => by rfl) (fun _ => n__law_copy) (fun _ => q__law_copy) (fun _ => b__law_copy) (DA.cons (DE.var fun _ => pv 5) DA.nil)) (DA.cons DE.int DA.nil))))) DA.nil))) (DW.or1 (DT.cmp (fun _ => (op_neU (k := 3) hTn hg (hr.mono (by omega)))) sem_neU (DE.tup (DA.cons (DE.fld (fun _ => rfl) (DE.var fun _ => pv 16)) (DA.cons (DE.fld (fun _ => rfl) (DE.var fun _ => pv 16)) DA.nil))) (DE.cst (.tup [.int 2, .int 9]) (by rfl)))))) (DSs.one (DS.ret DE.bl)) DSs.nil)
    (DSs.cons (DS.ifS (DW.pt (DW.or (DT.cmp (fun _ => (op_neU (k := 3) hTn hg (hr.mono (by omega)))) sem_neU (DE.fld (fun _ => rfl) (DE.mkO (fun _ => M_Inverse) (fun _ => F_Inverse) (fun _ => hg) (fun _ => hr.mono (by omega)) (fun _ => takes_of rfl rfl rfl rfl) (fun _ => B_Inverse) (fun _ => by rfl) (fun _ => g_Inverse) (DA.cons DE.int DA.nil))) DE.int) (DW.or (DT.not (DT.val (DE.isi1 (fun _ => rfl) (fun _ => pe_glob (v := .ref C_Nothing) (by rfl) mC_Nothing rfl) (.own C_Nothing) (fun _ => by rfl) (fun _ => m_isinstance) (DE.mk0 (fun _ => z_Nothing) (fun _ => by rfl) (fun _ => mC_Nothing))))) (DW.or (DT.val (DE.isi1 (fun _ => rfl) (fun _ => pe_glob (v := .ref C_Inverse) (by rfl) mC_Inverse rfl) (.own C_Inverse) (fun _ => by rfl) (fun _ => m_isinstance) (DE.mk0 (fun _ => z_Nothing) (fun _ => by rfl) (fun _ => mC_Nothing)))) (DW.or1 (DT.cmp (fun _ => (op_neU (k := 3) hTn hg (hr.mono (by omega)))) sem_neU (DE.var fun _ => pv 14) (DE.mkK (r := false) (fun _ => M_Leaf) (fun _ => F_Leaf) (fun _ => hg) (fun _ => hr.mono (by omega)) (fun _ => takes_of rfl rfl rfl rfl) (fun _ => W_Leaf) l_Leaf (fun _ => by rfl) (fun _ => g_Leaf) (DK.cons (DE.var fun _ => pv 4) (DK.cons (DE.var fun _ => pv 7) (DK.cons (DE.var fun _ => pv 5) (DK.cons (DE.var fun _ => pv 6) (DK.cons (DE.var fun _ => pv 7) DK.nil)))))))))))) (DSs.one (DS.ret DE.bl)) DSs.nil)
    (DSs.cons (DS.set (k := 17) (fun _ => sc_law.nd) (fun _ => rfl) (fun _ => (.inl rfl)) (DE.opL (fun _ _ ha => pe_callB (call_reprX hg hr.units) (by rfl) m_repr (by decide +kernel) ha) sem_reprX (DA.cons (DE.fld (fun _ => rfl) (DE.op2 (fun _ _ _ p q => pe_ix ix_seq p q (fun _ _ => rfl)) sem_ix (DE.op2 (fun _ _ _ p q => pe_ix ix_seq p q (fun _ _ => rfl)) sem_ix (DE.var fun _ => pv 9) DE.int) DE.int)) DA.nil)))
    (DSs.cons (DS.ifS (DT.val (DE.isi1 (fun _ => rfl) (fun _ => pe_bltn (v := .ty "list") (by rfl) m_list (by decide +kernel) rfl) (.ty "list") (fun _ => by rfl) (fun _ => m_isinstance) (DE.var fun _ => pv 4))) (DSs.one (DS.appF (k := 4) (fun _ => rfl) (fun _ => pv 4) DE.int (fun _ _ ha => pe_bm PySem.F.plainAttrs_list PySem.F.slot_list_append PySem.F.type_list_append mt_append (pv 4) ha))) DSs.nil)
    (DSs.one (DS.ret (DE.cmp (fun _ => (op_eqU (k := 2) hTe hg (hr.mono (by omega)))) sem_eqU (DE.opL (fun _ _ ha => pe_callB (call_reprX hg hr.units) (by rfl) m_repr (by decide +kernel) ha) sem_reprX (DA.cons (DE.fld (fun _ => rfl) (DE.op2 (fun _ _ _ p q => pe_ix ix_seq p q (fun _ _ => rfl)) sem_ix (DE.op2 (fun _ _ _ p q => pe_ix ix_seq p q (fun _ _ => rfl)) sem_ix (DE.var fun _ => pv 9) DE.int) DE.int)) DA.nil)) (DE.var fun _ => pv 17)))))))))))))))))) fun L ds Kd Kx n hl h => ?_
  obtain ⟨ns, tabs, rfl, hlen, rfl, hk⟩ := h
  unfold bodyWN
  show dSeq _ _ _ [some (.d (.scr K ns tabs)), none, none, none, none, none, none, none, none, none, none, none, none, none, none, none, none, none] 0
  refine seq_split (fun ρ' n' => ρ' = [some (.d (.scr K ns tabs)), some (.d (.pen)), none, none, none, none, none, none, none, none, none, none, none, none, none, none, none, none] ∧ n' = 0) ?R1 (fun nx hnx => ?S1)
  case S1 =>
    simp only [s_asg, w_bind, w_pure, w_need, w_calm, g_0, g_s]
    exact ⟨rfl, ⟨rfl, hlen⟩, hnx _ _ ⟨rfl, rfl⟩⟩
  intro ρ1 n1 h1
  obtain ⟨e1, e2⟩ := h1
  rw [e1, e2]
  clear e1 e2 ρ1 n1
  refine seq_split (fun ρ' n' => ∃ a b c d : D, Val a ∧ Val b ∧ Val c ∧ Val d ∧ ρ' = [some (.d (.scr K ns tabs)), some (.d (.pen)), some (.d (.lst [a, b, c, d])), none, none, none, none, none, none, none, none, none, none, none, none, none, none, none] ∧ n' = 16) ?R2 (fun nx hnx => ?S2)
  case S2 =>
    rw [s_asg]
    simp only [s_lc, w_bind, w_pure, w_need, w_calm, g_0, g_s, range_at]
    refine ⟨⟨by decide, by decide⟩, ?_⟩
    show lcD _ _ _ [.int 0, .int 1, .int 2, .int 3] [some (.d (.scr K ns tabs)), some (.d (.pen)), none, none, none, none, none, none, none, none, none, none, none, none, none, none, none, none] _ _ _ _
    simp only [lcD, dName, List.length_cons, List.length_nil, Nat.reduceLT, Nat.reduceAdd, if_true, w_bind, w_pure, w_calm, w_need, g_0, g_s, List.set_cons_succ, List.set_cons_zero]
    refine ⟨trivial, rfl, by omega, fun a ha => ⟨by rw [sizeLine_eq]; decide, trivial, rfl, by omega, fun b hb => ⟨by rw [sizeLine_eq]; simp, trivial, rfl, by omega, fun c hc => ⟨by rw [sizeLine_eq]; simp, trivial, rfl, by omega, fun d hd => ⟨by rw [sizeLine_eq]; simp, hnx _ _ ⟨a, b, c, d, ha, hb, hc, hd, rfl, rfl⟩⟩⟩⟩⟩⟩
  intro ρ1 n1 h1
  obtain ⟨a, b, c, d, ha, hb, hc, hd, e1, e2⟩ := h1
  rw [e1, e2]
  clear e1 e2 ρ1 n1
  refine seq_split (fun ρ' n' => ρ' = [some (.d (.scr K ns tabs)), some (.d (.pen)), some (.d (.lst [a, b, c, d])), none, some (.d (a)), some (.d (b)), some (.d (c)), some (.d (d)), none, none, none, none, none, none, none, none, none, none] ∧ n' = 16) ?R3 (fun nx hnx => ?S3)
  case S3 =>
    rw [s_asgG]
    simp only [s_lc, w_bind, w_pure, w_need, w_calm, g_0, g_s, items_lst]
    refine lcD_map (f := fun x => x) [a, b, c, d] [] _ (by rw [sizeLine_eq]; simp) (fun t ht => ⟨[some (.d (.scr K ns tabs)), some (.d (.pen)), some (.d (.lst [a, b, c, d])), none, none, none, none, none, some (.d (t)), none, none, none, none, none, none, none, none, none], rfl, fun K1 hK => ?_⟩) ?_
    · have hv : Val t := forall_more ha (forall_more hb (forall_more hc (forall_one hd))) t ht
      simp only [w_bind, w_pure, w_calm, w_need, dName, List.set_cons_succ, List.set_cons_zero, List.map_cons, List.map_nil, g_0, g_s, isi_list (val_base hv)]
      clear hv ht
      cases t <;> exact hK
    · exact hnx _ _ ⟨rfl, rfl⟩
  intro ρ1 n1 h1
  obtain ⟨e1, e2⟩ := h1
  rw [e1, e2]
  clear e1 e2 ρ1 n1
  refine seq_split (fun ρ' n' => ρ' = [some (.d (.scr K ns tabs)), some (.d (.pen)), some (.d (.lst [a, b, c, d])), none, some (.d (a)), some (.d (b)), some (.d (c)), some (.d (d)), none, some (.d (.lst (rowsD C_Always C_Fails C_NoDrawing C_Found C_Model C_Paper C_Leaf C_Inverse C_Nothing C_Split a b c d))), none, none, none, none, none, none, none, none] ∧ n' = 16) ?R4 (fun nx hnx => ?S4)
  case S4 =>
    simp only [s_asg, w_bind, w_pure, w_need, w_calm, g_0, g_s]
    exact ⟨rfl, a, b, c, d, rfl, val_base ha, val_base hb, val_base hc, val_base hd, hnx _ _ ⟨rfl, rfl⟩⟩
  intro ρ1 n1 h1
  obtain ⟨e1, e2⟩ := h1
  rw [e1, e2]
  clear e1 e2 ρ1 n1
  have hR := rows_ok (C_Always := C_Always) (C_Fails := C_Fails) (C_NoDrawing := C_NoDrawing) (C_Found := C_Found) (C_Model := C_Model) (C_Paper := C_Paper) (C_Leaf := C_Leaf) (C_Inverse := C_Inverse) (C_Nothing := C_Nothing) (C_Split := C_Split) ha hb hc hd
  have hP := rows_allP (C_Always := C_Always) (C_Fails := C_Fails) (C_NoDrawing := C_NoDrawing) (C_Found := C_Found) (C_Model := C_Model) (C_Paper := C_Paper) (C_Leaf := C_Leaf) (C_Inverse := C_Inverse) (C_Nothing := C_Nothing) (C_Split := C_Split) ha hb hc hd
  have hRl : (rowsD C_Always C_Fails C_NoDrawing C_Found C_Model C_Paper C_Leaf C_Inverse C_Nothing C_Split a b c d).length = 5 := rfl
  have hR0 : ∃ u v, rowsD C_Always C_Fails C_NoDrawing C_Found C_Model C_Paper C_Leaf C_Inverse C_Nothing C_Split a b c d = .tup (.obj C_Always fs_Always [cpy a] :: u) :: v := ⟨_, _, rfl⟩
  revert hR hP hRl hR0
  generalize rowsD C_Always C_Fails C_NoDrawing C_Found C_Model C_Paper C_Leaf C_Inverse C_Nothing C_Split a b c d = R
  intro hR hP hRl hR0
  have hAll : ∀ x ∈ R, ∃ nm, RowIn C_Always C_Fails C_NoDrawing C_Found C_Model C_Paper C_Leaf C_Inverse C_Nothing C_Split nm x := fun x hx => by
    obtain ⟨i, hi, e⟩ := List.mem_iff_getElem.mp hx
    obtain ⟨y, e2, hy⟩ := hR i (by omega)
    rw [List.getElem?_eq_getElem hi, e] at e2
    cases e2
    exact ⟨_, hy⟩
  refine seq_split (fun ρ' n' => ∃ o1 o2 o3 : Option SV, ρ' = [some (.d (.scr K ns tabs)), some (.d (.pen)), some (.d (.lst [a, b, c, d])), none, some (.d (a)), some (.d (b)), some (.d (c)), some (.d (d)), none, some (.d (.lst R)), o1, o2, o3, none, none, none, none, none] ∧ n' = 16) ?R5 (fun nx hnx => ?S5)
  case S5 =>
    rw [s_for]
    simp only [w_bind, w_pure, w_need, w_calm, g_0, g_s, items_lst]
    refine forD_list (fun ds ρ n => (∀ x ∈ ds, ∃ nm, RowIn C_Always C_Fails C_NoDrawing C_Found C_Model C_Paper C_Leaf C_Inverse C_Nothing C_Split nm x) ∧ n = 16 ∧ ∃ o1 o2 o3 : Option SV, ρ = [some (.d (.scr K ns tabs)), some (.d (.pen)), some (.d (.lst [a, b, c, d])), none, some (.d (a)), some (.d (b)), some (.d (c)), some (.d (d)), none, some (.d (.lst R)), o1, o2, o3, none, none, none, none, none]) R _ _ ⟨hAll, rfl, none, none, none, rfl⟩ (fun ρ n h => ?_) (fun x xs ρ n E2 hI hnx2 _ _ _ => ?_)
    · obtain ⟨_, e1, o1, o2, o3, e2⟩ := h
      exact hnx _ _ ⟨o1, o2, o3, e2, e1⟩
    obtain ⟨hall, rfl, o1, o2, o3, rfl⟩ := hI
    obtain ⟨nm, r, zs, rfl, m1, m2, m3, hl, hs, hn, _⟩ := hall x List.mem_cons_self
    rw [g_tup3]
    dsimp only
    simp only [List.set_cons_succ, List.set_cons_zero, s_onT, w_bind, w_pure, w_need, w_calm, g_0, g_s]
    refine ⟨rfl, r, zs, rfl, hl, m3, hs, hs, neU_str ?_⟩
    simp only [decide_true, Bool.not_true, Bool.false_eq_true, if_false, w_bind, w_pure, w_need, w_calm, g_0, g_s]
    refine ⟨rfl, r, zs, rfl, hl, m3, hs, hs, neU_str ?_⟩
    simp only [decide_true, Bool.not_true, Bool.false_eq_true, if_false, w_bind, w_pure, w_need, w_calm, g_0, g_s]
    refine ne_own ct m1 m2 ⟨r, zs, zs, rfl, m2, hl, .inr ⟨rfl, hl, .inl ⟨rfl, hn, ?_⟩⟩⟩
    simp only [notK, Bool.not_true, Bool.false_eq_true, if_false, w_bind, w_pure, w_need, w_calm, g_0, g_s]
    refine eq_own ct m1 m2 ⟨r, zs, zs, rfl, m2, hl, .inr ⟨rfl, hl, .inl ⟨rfl, hn, ?_⟩⟩⟩
    simp only [Bool.not_true, Bool.false_eq_true, if_false, w_bind, w_pure, w_need, w_calm, g_0, g_s]
    exact hnx2 _ _ ⟨fun y hy => hall y (List.mem_cons_of_mem _ hy), rfl, _, _, _, rfl⟩
  intro ρ1 n1 h1
  obtain ⟨o1, o2, o3, e1, e2⟩ := h1
  rw [e1, e2]
  clear e1 e2 ρ1 n1
  refine seq_split (fun ρ' n' => ∃ kk oo : Option SV, ρ' = [some (.d (.scr K ns tabs)), some (.d (.pen)), some (.d (.lst [a, b, c, d])), kk, some (.d (a)), some (.d (b)), some (.d (c)), some (.d (d)), none, some (.d (.lst R)), o1, o2, o3, oo, none, none, none, none] ∧ n' = 21) ?R6 (fun nx hnx => ?S6)
  case S6 =>
    rw [s_for]
    simp only [w_bind, w_pure, w_need, w_calm, g_0, g_s, fLen_lst, hRl, range_at]
    refine ⟨⟨by decide, by decide⟩, ?_⟩
    refine forD_range (fun i ρ n => n = 16 + i ∧ ∃ kk oo : Option SV, ρ = [some (.d (.scr K ns tabs)), some (.d (.pen)), some (.d (.lst [a, b, c, d])), kk, some (.d (a)), some (.d (b)), some (.d (c)), some (.d (d)), none, some (.d (.lst R)), o1, o2, o3, oo, none, none, none, none]) 5 _ _ ⟨rfl, none, none, rfl⟩ (fun ρ n h => ?_) (fun i ρ n E2 hi hI hnx2 _ _ => ?_)
    · obtain ⟨e1, kk, oo, e2⟩ := h
      exact hnx _ _ ⟨kk, oo, e2, e1⟩
    obtain ⟨rfl, kk, oo, rfl⟩ := hI
    obtain ⟨x, hx, r, zs, rfl, m1, m2, m3, hl, hs, hn, enm⟩ := hR i hi
    show dSeq _ _ E2 [some (.d (.scr K ns tabs)), some (.d (.pen)), some (.d (.lst [a, b, c, d])), some (.d (.int (i : Int))), some (.d (a)), some (.d (b)), some (.d (c)), some (.d (d)), none, some (.d (.lst R)), o1, o2, o3, oo, none, none, none, none] (16 + i)
    simp only [s_seq, s_asg, w_bind, w_pure, w_need, w_calm, g_0, g_s, fLen_lst, hRl, fAdd_int, fInt0_at]
    refine ⟨rfl, by decide, by decide, by omega, fun j j0 j4 => ?_⟩
    obtain ⟨m, hm5, hmi, em⟩ : ∃ m : Nat, m < 5 ∧ m ≠ i ∧ Int.fmod ((i : Int) + 1 + j) ((5 : Nat) : Int) = (m : Int) := by
      refine ⟨(i + 1 + j.toNat) % 5, Nat.mod_lt _ (by decide), by omega, ?_⟩
      rw [Int.fmod_eq_emod_of_nonneg _ (by decide)]
      omega
    obtain ⟨y, hy, s, ws, rfl, n1, n2, n3, hl2, hs2, hn2, enm2⟩ := hR m hm5
    have hne : s.1 ≠ r.1 := by rw [enm, enm2]; exact nm_ne m hm5 i hi hmi
    simp only [fAdd_int, fIntC_at, fInt_at, em, row_ix hy, fIx_t0, s_onT, w_bind, w_pure, w_need, w_calm, g_0, g_s, List.set_cons_succ, List.set_cons_zero, row_ix hx]
    refine ⟨(by decide : ((5 : Nat) : Int) ≠ 0), ?_⟩
    refine eq_own ct m1 m2 ⟨s, zs, ws, rfl, n2, hl, .inl ⟨hne, ?_⟩⟩
    simp only [Bool.false_eq_true, if_false, w_bind, w_pure, w_need, w_calm, g_0, g_s, row_ix hx, fIx_t0]
    refine ne_own ct m1 m2 ⟨s, zs, ws, rfl, n2, hl, .inl ⟨hne, ?_⟩⟩
    simp only [notK, Bool.not_false, Bool.not_true, Bool.false_eq_true, if_false, w_bind, w_pure, w_need, w_calm, g_0, g_s]
    exact hnx2 _ _ ⟨by omega, _, _, rfl⟩
  intro ρ1 n1 h1
  obtain ⟨kk, oo, e1, e2⟩ := h1
  rw [e1, e2]
  clear e1 e2 ρ1 n1
  refine seq_split (fun ρ' n' => ρ' = [some (.d (.scr K ns tabs)), some (.d (.pen)), some (.d (.lst [a, b, c, d])), kk, some (.d (a)), some (.d (b)), some (.d (c)), some (.d (d)), none, some (.d (.lst R)), o1, o2, o3, oo, none, none, none, none] ∧ n' = 21) ?R7 (fun nx hnx => ?S7)
  case S7 =>
    simp only [s_onT, s_onE, w_bind, w_pure, w_need, w_calm, g_0, g_s]
    refine ⟨rfl, (forall_one rfl), rfl, (forall_one rfl), ?_⟩
    refine eq_diff ct (("Always", C_Always, fs_Always, true) : CRow) (by simp [ER]) row_Always true rfl (xs := [.tup [.int 1]]) (ys := [.tup [.int 2]]) rfl rfl ⟨by decide +kernel, by decide +kernel⟩ ⟨by decide +kernel, by decide +kernel⟩ (by decide +kernel) ?_
    simp only [Bool.false_eq_true, if_false, s_onE, w_bind, w_pure, w_need, w_calm, g_0, g_s]
    refine ⟨rfl, (forall_more rfl (forall_one rfl)), rfl, (forall_more rfl (forall_one rfl)), ?_⟩
    refine eq_diff ct (("Fails", C_Fails, fs_Fails, false) : CRow) (by simp [ER]) row_Fails false rfl (xs := [.tup [], .int 1]) (ys := [.tup [], .int 2]) rfl rfl ⟨by decide +kernel, by decide +kernel⟩ ⟨by decide +kernel, by decide +kernel⟩ (by decide +kernel) ?_
    simp only [Bool.false_eq_true, if_false, s_onE, w_bind, w_pure, w_need, w_calm, g_0, g_s]
    refine ⟨rfl, (forall_one rfl), rfl, (forall_one rfl), ?_⟩
    refine eq_diff ct (("NoDrawing", C_NoDrawing, fs_NoDrawing, true) : CRow) (by simp [ER]) row_NoDrawing true rfl (xs := [.int 1]) (ys := [.int 2]) rfl rfl ⟨by decide +kernel, by decide +kernel⟩ ⟨by decide +kernel, by decide +kernel⟩ (by decide +kernel) ?_
    simp only [Bool.false_eq_true, if_false, s_onE, w_bind, w_pure, w_need, w_calm, g_0, g_s]
    refine ⟨rfl, (forall_more rfl (forall_one rfl)), rfl, (forall_more rfl (forall_one rfl)), ?_⟩
    refine eq_diff ct (("Model", C_Model, fs_Model, false) : CRow) (by simp [ER]) row_Model false rfl (xs := [.tup [], .tup []]) (ys := [.tup [], .tup [.int 1]]) rfl rfl ⟨by decide +kernel, by decide +kernel⟩ ⟨by decide +kernel, by decide +kernel⟩ (by decide +kernel) ?_
    simp only [Bool.false_eq_true, if_false, s_onE, w_bind, w_pure, w_need, w_calm, g_0, g_s]
    exact hnx _ _ ⟨rfl, rfl⟩
  intro ρ1 n1 h1
  obtain ⟨e1, e2⟩ := h1
  rw [e1, e2]
  clear e1 e2 ρ1 n1
  refine seq_split (fun ρ' n' => ρ' = [some (.d (.scr K ns tabs)), some (.d (.pen)), some (.d (.lst [a, b, c, d])), kk, some (.d (a)), some (.d (b)), some (.d (c)), some (.d (d)), none, some (.d (.lst R)), o1, o2, o3, oo, some (.d (.obj C_Leaf fs_Leaf [cpy a, cpy d, cpy b, cpy c, cpy d])), some (.d (.obj C_Found fs_Found [cpy a, cpy b, .int 6])), some (.d (.obj C_Split fs_Split [.int 2, .int 9])), none] ∧ n' = 21) ?R8 (fun nx hnx => ?S8)
  case S8 =>
    rw [s_par3]
    simp only [w_bind, w_pure, w_need, w_calm, g_0, g_s]
    exact ⟨rfl, (forall_more (val_base ha) (forall_more (val_base hd) (forall_more (val_base hb) (forall_more (val_base hc) (forall_one (val_base hd)))))), rfl, (forall_more (val_base ha) (forall_more (val_base hb) (forall_one (rfl)))), rfl, forall_more rfl (forall_one rfl), hnx _ _ ⟨rfl, rfl⟩⟩
  intro ρ1 n1 h1
  obtain ⟨e1, e2⟩ := h1
  rw [e1, e2]
  clear e1 e2 ρ1 n1
  refine seq_split (fun ρ' n' => ρ' = [some (.d (.scr K ns tabs)), some (.d (.pen)), some (.d (.lst [a, b, c, d])), kk, some (.d (a)), some (.d (b)), some (.d (c)), some (.d (d)), none, some (.d (.lst R)), o1, o2, o3, oo, some (.d (.obj C_Leaf fs_Leaf [cpy a, cpy d, cpy b, cpy c, cpy d])), some (.d (.obj C_Found fs_Found [cpy a, cpy b, .int 6])), some (.d (.obj C_Split fs_Split [.int 2, .int 9])), none] ∧ n' = 21) ?R9 (fun nx hnx => ?S9)
  case S9 =>
    simp only [s_onT, s_onE, w_bind, w_pure, w_need, w_calm, g_0, g_s]
    refine ⟨rfl, (("Leaf", C_Leaf, fs_Leaf, false) : CRow), [cpy a, cpy d, cpy b, cpy c, cpy d], rfl, rfl, by simp [CT], shows_row (by simp) (forall_more (small_str (x := "Leaf") (by decide +kernel)) (forall_more (val_small ha) (forall_more (val_small hd) (forall_more (val_small hb) (forall_more (val_small hc) (forall_one (val_small hd))))))), rfl, a, rfl, val_base ha, rfl, d, rfl, val_base hd, rfl, b, rfl, val_base hb, rfl, c, rfl, val_base hc, rfl, d, rfl, val_base hd, fits_small (by simp), shows_row (by simp) (forall_more (small_str (x := "Leaf") (by decide +kernel)) (forall_more (val_small ha) (forall_more (val_small hd) (forall_more (val_small hb) (forall_more (val_small hc) (forall_one (val_small hd))))))), neU_str ?_⟩
    simp only [decide_true, Bool.not_true, Bool.false_eq_true, if_false, s_onE, w_bind, w_pure, w_need, w_calm, g_0, g_s]
    exact hnx _ _ ⟨rfl, rfl⟩
  intro ρ1 n1 h1
  obtain ⟨e1, e2⟩ := h1
  rw [e1, e2]
  clear e1 e2 ρ1 n1
  refine seq_split (fun ρ' n' => ρ' = [some (.d (.scr K ns tabs)), some (.d (.pen)), some (.d (.lst [a, b, c, d])), kk, some (.d (a)), some (.d (b)), some (.d (c)), some (.d (d)), none, some (.d (.lst R)), o1, o2, o3, oo, some (.d (.obj C_Leaf fs_Leaf [cpy a, cpy d, cpy b, cpy c, cpy d])), some (.d (.obj C_Found fs_Found [cpy a, cpy b, .int 6])), some (.d (.obj C_Split fs_Split [.int 2, .int 9])), none] ∧ n' = 21) ?R10 (fun nx hnx => ?S10)
  case S10 =>
    simp only [s_onT, s_onE, w_bind, w_pure, w_need, w_calm, g_0, g_s]
    refine ⟨rfl, (("Found", C_Found, fs_Found, false) : CRow), [cpy a, cpy b, .int 6], rfl, rfl, by simp [CT], shows_row (by simp) (forall_more (small_str (x := "Found") (by decide +kernel)) (forall_more (val_small ha) (forall_more (val_small hb) (forall_one (⟨by decide +kernel, by decide +kernel, by decide +kernel, by decide +kernel, by decide +kernel⟩ : SmallX (.int 6)))))), rfl, a, rfl, val_base ha, rfl, b, rfl, val_base hb, fits_small (by simp), shows_row (by simp) (forall_more (small_str (x := "Found") (by decide +kernel)) (forall_more (val_small ha) (forall_more (val_small hb) (forall_one (⟨by decide +kernel, by decide +kernel, by decide +kernel, by decide +kernel, by decide +kernel⟩ : SmallX (.int 6)))))), neU_str ?_⟩
    simp only [decide_true, Bool.not_true, Bool.false_eq_true, if_false, s_onE, w_bind, w_pure, w_need, w_calm, g_0, g_s, fe_Split_level ct, fe_Split_r ct]
    refine ⟨fits_small (by simp), neU_data tup29.1 tup29.1 ?_⟩
    rw [tup29.2]
    simp only [decide_true, Bool.not_true, Bool.false_eq_true, if_false, s_onE, w_bind, w_pure, w_need, w_calm, g_0, g_s]
    exact hnx _ _ ⟨rfl, rfl⟩
  intro ρ1 n1 h1
  obtain ⟨e1, e2⟩ := h1
  rw [e1, e2]
  clear e1 e2 ρ1 n1
  refine seq_split (fun ρ' n' => ρ' = [some (.d (.scr K ns tabs)), some (.d (.pen)), some (.d (.lst [a, b, c, d])), kk, some (.d (a)), some (.d (b)), some (.d (c)), some (.d (d)), none, some (.d (.lst R)), o1, o2, o3, oo, some (.d (.obj C_Leaf fs_Leaf [cpy a, cpy d, cpy b, cpy c, cpy d])), some (.d (.obj C_Found fs_Found [cpy a, cpy b, .int 6])), some (.d (.obj C_Split fs_Split [.int 2, .int 9])), none] ∧ n' = 21) ?R11 (fun nx hnx => ?S11)
  case S11 =>
    have iNN : ∀ (Kd : D → Nat → Prop) (X : XD → Nat → Prop) (n : Nat), fIsi1 K (.ref C_Nothing) (.obj C_Nothing [] []) Kd X n = Kd (.bl true) n := fun Kd X n => isi_row (p := (("Nothing", C_Nothing, fs_Nothing, false) : CRow)) (q := (("Nothing", C_Nothing, fs_Nothing, false) : CRow)) ct row_Nothing row_Nothing
    have iNI : ∀ (Kd : D → Nat → Prop) (X : XD → Nat → Prop) (n : Nat), fIsi1 K (.ref C_Inverse) (.obj C_Nothing [] []) Kd X n = Kd (.bl false) n := fun Kd X n => isi_row (p := (("Nothing", C_Nothing, fs_Nothing, false) : CRow)) (q := (("Inverse", C_Inverse, fs_Inverse, false) : CRow)) ct row_Nothing row_Inverse
    simp only [s_onT, s_onE, w_bind, w_pure, w_need, w_calm, g_0, g_s]
    refine ⟨rfl, forall_one rfl, ?_⟩
    simp only [List.map_cons, List.map_nil, fe_Inverse_number ct]
    refine neU_int ?_
    simp only [decide_true, Bool.not_true, Bool.false_eq_true, if_false, s_onE, w_bind, w_pure, w_need, w_calm, g_0, g_s, iNN, iNI]
    refine ⟨rfl, (forall_more (val_base ha) (forall_more (val_base hd) (forall_more (val_base hb) (forall_more (val_base hc) (forall_one (val_base hd)))))), ?_⟩
    refine ne_same ct (("Leaf", C_Leaf, fs_Leaf, false) : CRow) (by simp [ER]) row_Leaf rfl (nst_tup (forall_more (val_nst7 ha) (forall_more (val_nst7 hd) (forall_more (val_nst7 hb) (forall_more (val_nst7 hc) (forall_one (val_nst7 hd))))))) ?_
    simp only [decide_true, Bool.not_true, Bool.false_eq_true, if_false, s_onE, w_bind, w_pure, w_need, w_calm, g_0, g_s]
    exact hnx _ _ ⟨rfl, rfl⟩
  intro ρ1 n1 h1
  obtain ⟨e1, e2⟩ := h1
  rw [e1, e2]
  clear e1 e2 ρ1 n1
  obtain ⟨u, v, rfl⟩ := hR0
  refine seq_split (fun ρ' n' => ρ' = [some (.d (.scr K ns tabs)), some (.d (.pen)), some (.d (.lst [a, b, c, d])), kk, some (.d (a)), some (.d (b)), some (.d (c)), some (.d (d)), none, some (.d (.lst (.tup (.obj C_Always fs_Always [cpy a] :: u) :: v))), o1, o2, o3, oo, some (.d (.obj C_Leaf fs_Leaf [cpy a, cpy d, cpy b, cpy c, cpy d])), some (.d (.obj C_Found fs_Found [cpy a, cpy b, .int 6])), some (.d (.obj C_Split fs_Split [.int 2, .int 9])), some (.d (.str (shw (cpy a))))] ∧ n' = 21) ?R12 (fun nx hnx => ?S12)
  case S12 =>
    simp only [s_asg, w_bind, w_pure, w_need, w_calm, g_0, g_s, fIx_l0, fIx_t0, fe_Always_unless ct, fReprX_at]
    exact ⟨small_one (val_small ha), hnx _ _ ⟨rfl, rfl⟩⟩
  intro ρ1 n1 h1
  obtain ⟨e1, e2⟩ := h1
  rw [e1, e2]
  clear e1 e2 ρ1 n1
  refine seq_split (fun ρ' n' => ∃ t0 t1 t2 t3 t4 t5 t6 t7 t8 t10 t11 t12 t13 t14 t15 t16 : Option SV, ρ' = [t0, t1, t2, t3, t4, t5, t6, t7, t8, some (.d (.lst (.tup (.obj C_Always fs_Always [cpy a] :: u) :: v))), t10, t11, t12, t13, t14, t15, t16, some (.d (.str (shw (cpy a))))] ∧ n' = 21) ?R13 (fun nx hnx => ?S13)
  case S13 =>
    simp only [s_onT, w_bind, w_pure, w_need, w_calm, g_0, g_s, isi_list (val_base ha)]
    cases a with
    | lst es =>
      obtain ⟨k1, k2, k3⟩ := val_lst ha
      refine ifT rfl ?_
      refine ⟨by rw [sizeLine_eq]; omega, k2, trivial, _, keep_two rfl rfl rfl (allP.apart k1 hP) apart_str, hnx _ _ ⟨_, _, _, _, _, _, _, _, _, _, _, _, _, _, _, _, rfl, rfl⟩⟩
    | _ => exact hnx _ _ ⟨_, _, _, _, _, _, _, _, _, _, _, _, _, _, _, _, rfl, rfl⟩
  intro ρ1 n1 h1
  obtain ⟨t0, t1, t2, t3, t4, t5, t6, t7, t8, t10, t11, t12, t13, t14, t15, t16, e1, e2⟩ := h1
  rw [e1, e2]
  clear e1 e2 ρ1 n1
  simp only [s_onE, w_bind, w_pure, w_need, w_calm, g_0, g_s, fIx_l0, fIx_t0, fe_Always_unless ct, fReprX_at]
  refine ⟨small_one (val_small ha), eqU_str ?_⟩
  simp only [decide_true]
  exact hk _
theorem all_ok (F_copied : DefF K mg "copied" s_copied ["value"]) (F_model_key : DefF K mg "model_key" s_model_key ["model"]) (F_leaf_key : DefF K mg "leaf_key" s_leaf_key ["leaf"]) (F_paper_key : DefF K mg "paper_key" s_paper_key ["paper"]) (F__law_pen : DefF K mg "_law_pen" s__law_pen ["script"]) (F__law_draw : DefF K mg "_law_draw" s__law_draw ["pen", "many"]) (F__law_pick : DefF K mg "_law_pick" s__law_pick ["pen", "some"]) (F__law_value : DefF K mg "_law_value" s__law_value ["pen"]) (F__law_copy : DefF K mg "_law_copy" s__law_copy ["value"]) (F__law_fields : DefF K mg "_law_fields" s__law_fields ["one"]) (F__law_rows : DefF K mg "_law_rows" s__law_rows ["a", "b", "c", "d"]) (m_list : mg "list" = none) (m_isinstance : mg "isinstance" = none) (m_tuple : mg "tuple" = none) (ct : clsTB K (CT C_Always C_Fails C_NoDrawing C_Found C_Model C_Paper C_Leaf C_Inverse C_Nothing C_Split) = true) (m_int : mg "int" = none) (m_len : mg "len" = none) (m_range : mg "range" = none) (mC_Leaf : mg "Leaf" = some (.ref C_Leaf)) (mC_Paper : mg "Paper" = some (.ref C_Paper)) (mC_Model : mg "Model" = some (.ref C_Model)) (mC_Found : mg "Found" = some (.ref C_Found)) (mC_NoDrawing : mg "NoDrawing" = some (.ref C_NoDrawing)) (mC_Fails : mg "Fails" = some (.ref C_Fails)) (mC_Always : mg "Always" = some (.ref C_Always)) (m_repr : mg "repr" = none) (mC_Inverse : mg "Inverse" = some (.ref C_Inverse)) (z_Nothing : Mk0 K C_Nothing) (mC_Nothing : mg "Nothing" = some (.ref C_Nothing)) (I_Always : InitF K mg "Always" "Always.__init__" s_Always__init__ C_Always fs_Always false ["self", "unless"]) (ME_Always : MethF K "__eq__" "Always.__eq__" s_Always__eq__ C_Always ["self", "other"]) (MN_Always : MethF K "__ne__" "Always.__ne__" s_Always__ne__ C_Always ["self", "other"]) (I_Fails : InitF K mg "Fails" "Fails.__init__" s_Fails__init__ C_Fails fs_Fails true ["self", "row", "leaf"]) (ME_Fails : MethF K "__eq__" "Fails.__eq__" s_Fails__eq__ C_Fails ["self", "other"]) (MN_Fails : MethF K "__ne__" "Fails.__ne__" s_Fails__ne__ C_Fails ["self", "other"]) (I_NoDrawing : InitF K mg "NoDrawing" "NoDrawing.__init__" s_NoDrawing__init__ C_NoDrawing fs_NoDrawing false ["self", "step"]) (ME_NoDrawing : MethF K "__eq__" "NoDrawing.__eq__" s_NoDrawing__eq__ C_NoDrawing ["self", "other"]) (MN_NoDrawing : MethF K "__ne__" "NoDrawing.__ne__" s_NoDrawing__ne__ C_NoDrawing ["self", "other"]) (I_Found : InitF K mg "Found" "Found.__init__" s_Found__init__ C_Found fs_Found false ["self", "claims", "answers", "paper"]) (I_Model : InitF K mg "Model" "Model.__init__" s_Model__init__ C_Model fs_Model true ["self", "steps", "claims"]) (ME_Model : MethF K "__eq__" "Model.__eq__" s_Model__eq__ C_Model ["self", "other"]) (MN_Model : MethF K "__ne__" "Model.__ne__" s_Model__ne__ C_Model ["self", "other"]) (I_Paper : InitF K mg "Paper" "Paper.__init__" s_Paper__init__ C_Paper fs_Paper true ["self", "unless", "shares", "leaves", "numbers"]) (ME_Paper : MethF K "__eq__" "Paper.__eq__" s_Paper__eq__ C_Paper ["self", "other"]) (MN_Paper : MethF K "__ne__" "Paper.__ne__" s_Paper__ne__ C_Paper ["self", "other"]) (I_Leaf : InitF K mg "Leaf" "Leaf.__init__" s_Leaf__init__ C_Leaf fs_Leaf false ["self", "choices", "tower", "places", "inverses", "void"]) (ME_Leaf : MethF K "__eq__" "Leaf.__eq__" s_Leaf__eq__ C_Leaf ["self", "other"]) (MN_Leaf : MethF K "__ne__" "Leaf.__ne__" s_Leaf__ne__ C_Leaf ["self", "other"]) (I_Inverse : InitF K mg "Inverse" "Inverse.__init__" s_Inverse__init__ C_Inverse fs_Inverse false ["self", "number"]) (I_Split : InitF K mg "Split" "Split.__init__" s_Split__init__ C_Split fs_Split false ["self", "level", "r"]) {f : Addr} {fd : FuncData} (F_law : Fun K "law" "law" s_law f fd) : FnG P w K mg base 5 f fd ["script"] (spDN 1 (w_law K)) := by
  have h_copied := ok_copied (P := P) (w := w) (base := base)  (F := F_copied) (m_list := m_list) (m_isinstance := m_isinstance) (m_tuple := m_tuple)
  have h_model_key := ok_model_key (P := P) (w := w) (base := base)  (F := F_model_key) (ct := ct)
  have h_leaf_key := ok_leaf_key (P := P) (w := w) (base := base)  (F := F_leaf_key) (ct := ct)
  have h_paper_key := ok_paper_key (P := P) (w := w) (base := base)  (F := F_paper_key) (ct := ct)
  have o_Always := ctor_Always (P := P) (w := w) (base := base) (I_Always := I_Always) (ct := ct) (h_copied := h_copied)
  have E_Always := eqo_Always (P := P) (w := w) (base := base) (ME_Always := ME_Always) (ct := ct) (mC_Always := mC_Always) (m_isinstance := m_isinstance)
  have N_Always := neo_Always (P := P) (w := w) (base := base) (MN_Always := MN_Always) (ct := ct) (E_Always := E_Always)
  have o_Fails := ctor_Fails (P := P) (w := w) (base := base) (I_Fails := I_Fails) (ct := ct) (h_copied := h_copied)
  have E_Fails := eqo_Fails (P := P) (w := w) (base := base) (ME_Fails := ME_Fails) (ct := ct) (mC_Fails := mC_Fails) (m_isinstance := m_isinstance)
  have N_Fails := neo_Fails (P := P) (w := w) (base := base) (MN_Fails := MN_Fails) (ct := ct) (E_Fails := E_Fails)
  have o_NoDrawing := ctor_NoDrawing (P := P) (w := w) (base := base) (I_NoDrawing := I_NoDrawing) (ct := ct) (h_copied := h_copied)
  have E_NoDrawing := eqo_NoDrawing (P := P) (w := w) (base := base) (ME_NoDrawing := ME_NoDrawing) (ct := ct) (mC_NoDrawing := mC_NoDrawing) (m_isinstance := m_isinstance)
  have N_NoDrawing := neo_NoDrawing (P := P) (w := w) (base := base) (MN_NoDrawing := MN_NoDrawing) (ct := ct) (E_NoDrawing := E_NoDrawing)
  have o_Found := ctor_Found (P := P) (w := w) (base := base) (I_Found := I_Found) (ct := ct) (h_copied := h_copied)
  have o_Model := ctor_Model (P := P) (w := w) (base := base) (I_Model := I_Model) (ct := ct) (h_copied := h_copied)
  have E_Model := eqo_Model (P := P) (w := w) (base := base) (ME_Model := ME_Model) (ct := ct) (h_model_key := h_model_key) (mC_Model := mC_Model) (m_isinstance := m_isinstance)
  have N_Model := neo_Model (P := P) (w := w) (base := base) (MN_Model := MN_Model) (ct := ct) (E_Model := E_Model)
  have o_Paper := ctor_Paper (P := P) (w := w) (base := base) (I_Paper := I_Paper) (ct := ct) (h_copied := h_copied)
  have E_Paper := eqo_Paper (P := P) (w := w) (base := base) (ME_Paper := ME_Paper) (ct := ct) (h_paper_key := h_paper_key) (mC_Paper := mC_Paper) (m_isinstance := m_isinstance)
  have N_Paper := neo_Paper (P := P) (w := w) (base := base) (MN_Paper := MN_Paper) (ct := ct) (E_Paper := E_Paper)
  have o_Leaf := ctor_Leaf (P := P) (w := w) (base := base) (I_Leaf := I_Leaf) (ct := ct) (h_copied := h_copied)
  have E_Leaf := eqo_Leaf (P := P) (w := w) (base := base) (ME_Leaf := ME_Leaf) (ct := ct) (h_leaf_key := h_leaf_key) (mC_Leaf := mC_Leaf) (m_isinstance := m_isinstance)
  have N_Leaf := neo_Leaf (P := P) (w := w) (base := base) (MN_Leaf := MN_Leaf) (ct := ct) (E_Leaf := E_Leaf)
  have o_Inverse := ctor_Inverse (P := P) (w := w) (base := base) (I_Inverse := I_Inverse) (ct := ct) (h_copied := h_copied)
  have o_Split := ctor_Split (P := P) (w := w) (base := base) (I_Split := I_Split) (ct := ct) (h_copied := h_copied)
  have hTe : ∀ C wf, TEqO (CT C_Always C_Fails C_NoDrawing C_Found C_Model C_Paper C_Leaf C_Inverse C_Nothing C_Split) (ER C_Always C_Fails C_NoDrawing C_Model C_Paper C_Leaf) C wf → EqG P w K mg base C "__eq__" 2 wf := by
    intro C wf h; obtain ⟨r, hr, rfl, rfl⟩ := h
    simp only [List.mem_cons, List.not_mem_nil, or_false] at hr
    rcases hr with rfl | rfl | rfl | rfl | rfl | rfl
    · exact E_Always
    · exact E_Fails
    · exact E_NoDrawing
    · exact E_Model
    · exact E_Paper
    · exact E_Leaf
  have hTn : ∀ C wf, TNeO (CT C_Always C_Fails C_NoDrawing C_Found C_Model C_Paper C_Leaf C_Inverse C_Nothing C_Split) (ER C_Always C_Fails C_NoDrawing C_Model C_Paper C_Leaf) C wf → EqG P w K mg base C "__ne__" 3 wf := by
    intro C wf h; obtain ⟨r, hr, rfl, rfl⟩ := h
    simp only [List.mem_cons, List.not_mem_nil, or_false] at hr
    rcases hr with rfl | rfl | rfl | rfl | rfl | rfl
    · exact N_Always
    · exact N_Fails
    · exact N_NoDrawing
    · exact N_Model
    · exact N_Paper
    · exact N_Leaf
  have h__law_pen := ok__law_pen (P := P) (w := w) (base := base)  (F := F__law_pen) (m_int := m_int) (m_list := m_list)
  have h__law_draw := ok__law_draw (P := P) (w := w) (base := base)  (F := F__law_draw) (m_len := m_len) (m_int := m_int)
  have h__law_pick := ok__law_pick (P := P) (w := w) (base := base)  (F := F__law_pick) (h__law_draw := h__law_draw) (m_len := m_len)
  have h__law_value := ok__law_value (P := P) (w := w) (base := base)  (F := F__law_value) (h__law_pick := h__law_pick) (m_range := m_range) (h__law_draw := h__law_draw)
  have h__law_copy := ok__law_copy (P := P) (w := w) (base := base)  (F := F__law_copy) (m_list := m_list) (m_isinstance := m_isinstance) (m_tuple := m_tuple)
  have h__law_fields := ok__law_fields (P := P) (w := w) (base := base)  (F := F__law_fields) (mC_Leaf := mC_Leaf) (m_isinstance := m_isinstance) (ct := ct) (mC_Paper := mC_Paper) (mC_Model := mC_Model) (mC_Found := mC_Found) (mC_NoDrawing := mC_NoDrawing) (mC_Fails := mC_Fails) (mC_Always := mC_Always)
  have h__law_rows := ok__law_rows (P := P) (w := w) (base := base) (C_Always := C_Always) (C_Fails := C_Fails) (C_NoDrawing := C_NoDrawing) (C_Found := C_Found) (C_Model := C_Model) (C_Paper := C_Paper) (C_Leaf := C_Leaf) (C_Inverse := C_Inverse) (C_Nothing := C_Nothing) (C_Split := C_Split) (F := F__law_rows) (h__law_copy := h__law_copy) (o_Paper := o_Paper) (o_Model := o_Model) (o_NoDrawing := o_NoDrawing) (o_Fails := o_Fails) (o_Always := o_Always)
  exact ok_law (F := F_law) (hTe := hTe) (hTn := hTn) (m_repr := m_repr) (ct := ct) (m_list := m_list) (m_isinstance := m_isinstance) (o_Leaf := o_Leaf) (mC_Inverse := mC_Inverse) (z_Nothing := z_Nothing) (mC_Nothing := mC_Nothing) (o_Inverse := o_Inverse) (h__law_fields := h__law_fields) (h__law_copy := h__law_copy) (o_Split := o_Split) (o_Found := o_Found) (o_Model := o_Model) (o_NoDrawing := o_NoDrawing) (o_Fails := o_Fails) (o_Always := o_Always) (m_range := m_range) (m_len := m_len) (m_int := m_int) (h__law_draw := h__law_draw) (h__law_rows := h__law_rows) (h__law_value := h__law_value) (h__law_pen := h__law_pen)
theorem end_mk {l : PySem.W.OpenLaw} {h : Heap} {fa : Addr} (X : K.In h) (G : h.Ns mainGlobals mg) (hfa : mg "law" = some (.ref fa)) {f_copied : Addr} {oc_copied kV_copied dc_copied pm_copied cd_copied ct_copied : Value} {od_copied an_copied : Option Addr} {sl_copied : Array (Option Value)} (a_copied : PySem.W.nsIn K mainGlobals "copied" = some (some (.ref f_copied))) (l_copied : K.lookup f_copied = some ⟨oc_copied, od_copied, .func (PySem.W.fnOf "copied" "copied" (defArgs s_copied) (defBody s_copied) (defScope s_copied) .none kV_copied dc_copied pm_copied an_copied cd_copied ct_copied), sl_copied⟩) (c_copied : PySem.W.codeIn K cd_copied "copied" = true) (k_copied : PySem.W.keepIn K (.ref f_copied) = true) {f_model_key : Addr} {oc_model_key kV_model_key dc_model_key pm_model_key cd_model_key ct_model_key : Value} {od_model_key an_model_key : Option Addr} {sl_model_key : Array (Option Value)} (a_model_key : PySem.W.nsIn K mainGlobals "model_key" = some (some (.ref f_model_key))) (l_model_key : K.lookup f_model_key = some ⟨oc_model_key, od_model_key, .func (PySem.W.fnOf "model_key" "model_key" (defArgs s_model_key) (defBody s_model_key) (defScope s_model_key) .none kV_model_key dc_model_key pm_model_key an_model_key cd_model_key ct_model_key), sl_model_key⟩) (c_model_key : PySem.W.codeIn K cd_model_key "model_key" = true) (k_model_key : PySem.W.keepIn K (.ref f_model_key) = true) {f_leaf_key : Addr} {oc_leaf_key kV_leaf_key dc_leaf_key pm_leaf_key cd_leaf_key ct_leaf_key : Value} {od_leaf_key an_leaf_key : Option Addr} {sl_leaf_key : Array (Option Value)} (a_leaf_key : PySem.W.nsIn K mainGlobals "leaf_key" = some (some (.ref f_leaf_key))) (l_leaf_key : K.lookup f_leaf_key = some ⟨oc_leaf_key, od_leaf_key, .func (PySem.W.fnOf "leaf_key" "leaf_key" (defArgs s_leaf_key) (defBody s_leaf_key) (defScope s_leaf_key) .none kV_leaf_key dc_leaf_key pm_leaf_key an_leaf_key cd_leaf_key ct_leaf_key), sl_leaf_key⟩) (c_leaf_key : PySem.W.codeIn K cd_leaf_key "leaf_key" = true) (k_leaf_key : PySem.W.keepIn K (.ref f_leaf_key) = true) {f_paper_key : Addr} {oc_paper_key kV_paper_key dc_paper_key pm_paper_key cd_paper_key ct_paper_key : Value} {od_paper_key an_paper_key : Option Addr} {sl_paper_key : Array (Option Value)} (a_paper_key : PySem.W.nsIn K mainGlobals "paper_key" = some (some (.ref f_paper_key))) (l_paper_key : K.lookup f_paper_key = some ⟨oc_paper_key, od_paper_key, .func (PySem.W.fnOf "paper_key" "paper_key" (defArgs s_paper_key) (defBody s_paper_key) (defScope s_paper_key) .none kV_paper_key dc_paper_key pm_paper_key an_paper_key cd_paper_key ct_paper_key), sl_paper_key⟩) (c_paper_key : PySem.W.codeIn K cd_paper_key "paper_key" = true) (k_paper_key : PySem.W.keepIn K (.ref f_paper_key) = true) {f__law_pen : Addr} {oc__law_pen kV__law_pen dc__law_pen pm__law_pen cd__law_pen ct__law_pen : Value} {od__law_pen an__law_pen : Option Addr} {sl__law_pen : Array (Option Value)} (a__law_pen : PySem.W.nsIn K mainGlobals "_law_pen" = some (some (.ref f__law_pen))) (l__law_pen : K.lookup f__law_pen = some ⟨oc__law_pen, od__law_pen, .func (PySem.W.fnOf "_law_pen" "_law_pen" (defArgs s__law_pen) (defBody s__law_pen) (defScope s__law_pen) .none kV__law_pen dc__law_pen pm__law_pen an__law_pen cd__law_pen ct__law_pen), sl__law_pen⟩) (c__law_pen : PySem.W.codeIn K cd__law_pen "_law_pen" = true) (k__law_pen : PySem.W.keepIn K (.ref f__law_pen) = true) {f__law_draw : Addr} {oc__law_draw kV__law_draw dc__law_draw pm__law_draw cd__law_draw ct__law_draw : Value} {od__law_draw an__law_draw : Option Addr} {sl__law_draw : Array (Option Value)} (a__law_draw : PySem.W.nsIn K mainGlobals "_law_draw" = some (some (.ref f__law_draw))) (l__law_draw : K.lookup f__law_draw = some ⟨oc__law_draw, od__law_draw, .func (PySem.W.fnOf "_law_draw" "_law_draw" (defArgs s__law_draw) (defBody s__law_draw) (defScope s__law_draw) .none kV__law_draw dc__law_draw pm__law_draw an__law_draw cd__law_draw ct__law_draw), sl__law_draw⟩) (c__law_draw : PySem.W.codeIn K cd__law_draw "_law_draw" = true) (k__law_draw : PySem.W.keepIn K (.ref f__law_draw) = true) {f__law_pick : Addr} {oc__law_pick kV__law_pick dc__law_pick pm__law_pick cd__law_pick ct__law_pick : Value} {od__law_pick an__law_pick : Option Addr} {sl__law_pick : Array (Option Value)} (a__law_pick : PySem.W.nsIn K mainGlobals "_law_pick" = some (some (.ref f__law_pick))) (l__law_pick : K.lookup f__law_pick = some ⟨oc__law_pick, od__law_pick, .func (PySem.W.fnOf "_law_pick" "_law_pick" (defArgs s__law_pick) (defBody s__law_pick) (defScope s__law_pick) .none kV__law_pick dc__law_pick pm__law_pick an__law_pick cd__law_pick ct__law_pick), sl__law_pick⟩) (c__law_pick : PySem.W.codeIn K cd__law_pick "_law_pick" = true) (k__law_pick : PySem.W.keepIn K (.ref f__law_pick) = true) {f__law_value : Addr} {oc__law_value kV__law_value dc__law_value pm__law_value cd__law_value ct__law_value : Value} {od__law_value an__law_value : Option Addr} {sl__law_value : Array (Option Value)} (a__law_value : PySem.W.nsIn K mainGlobals "_law_value" = some (some (.ref f__law_value))) (l__law_value : K.lookup f__law_value = some ⟨oc__law_value, od__law_value, .func (PySem.W.fnOf "_law_value" "_law_value" (defArgs s__law_value) (defBody s__law_value) (defScope s__law_value) .none kV__law_value dc__law_value pm__law_value an__law_value cd__law_value ct__law_value), sl__law_value⟩) (c__law_value : PySem.W.codeIn K cd__law_value "_law_value" = true) (k__law_value : PySem.W.keepIn K (.ref f__law_value) = true) {f__law_copy : Addr} {oc__law_copy kV__law_copy dc__law_copy pm__law_copy cd__law_copy ct__law_copy : Value} {od__law_copy an__law_copy : Option Addr} {sl__law_copy : Array (Option Value)} (a__law_copy : PySem.W.nsIn K mainGlobals "_law_copy" = some (some (.ref f__law_copy))) (l__law_copy : K.lookup f__law_copy = some ⟨oc__law_copy, od__law_copy, .func (PySem.W.fnOf "_law_copy" "_law_copy" (defArgs s__law_copy) (defBody s__law_copy) (defScope s__law_copy) .none kV__law_copy dc__law_copy pm__law_copy an__law_copy cd__law_copy ct__law_copy), sl__law_copy⟩) (c__law_copy : PySem.W.codeIn K cd__law_copy "_law_copy" = true) (k__law_copy : PySem.W.keepIn K (.ref f__law_copy) = true) {f__law_fields : Addr} {oc__law_fields kV__law_fields dc__law_fields pm__law_fields cd__law_fields ct__law_fields : Value} {od__law_fields an__law_fields : Option Addr} {sl__law_fields : Array (Option Value)} (a__law_fields : PySem.W.nsIn K mainGlobals "_law_fields" = some (some (.ref f__law_fields))) (l__law_fields : K.lookup f__law_fields = some ⟨oc__law_fields, od__law_fields, .func (PySem.W.fnOf "_law_fields" "_law_fields" (defArgs s__law_fields) (defBody s__law_fields) (defScope s__law_fields) .none kV__law_fields dc__law_fields pm__law_fields an__law_fields cd__law_fields ct__law_fields), sl__law_fields⟩) (c__law_fields : PySem.W.codeIn K cd__law_fields "_law_fields" = true) (k__law_fields : PySem.W.keepIn K (.ref f__law_fields) = true) {f__law_rows : Addr} {oc__law_rows kV__law_rows dc__law_rows pm__law_rows cd__law_rows ct__law_rows : Value} {od__law_rows an__law_rows : Option Addr} {sl__law_rows : Array (Option Value)} (a__law_rows : PySem.W.nsIn K mainGlobals "_law_rows" = some (some (.ref f__law_rows))) (l__law_rows : K.lookup f__law_rows = some ⟨oc__law_rows, od__law_rows, .func (PySem.W.fnOf "_law_rows" "_law_rows" (defArgs s__law_rows) (defBody s__law_rows) (defScope s__law_rows) .none kV__law_rows dc__law_rows pm__law_rows an__law_rows cd__law_rows ct__law_rows), sl__law_rows⟩) (c__law_rows : PySem.W.codeIn K cd__law_rows "_law_rows" = true) (k__law_rows : PySem.W.keepIn K (.ref f__law_rows) = true) {C_Leaf : Addr} (aC_Leaf : PySem.W.nsIn K mainGlobals "Leaf" = some (some (.ref C_Leaf))) {C_Paper : Addr} (aC_Paper : PySem.W.nsIn K mainGlobals "Paper" = some (some (.ref C_Paper))) {C_Model : Addr} (aC_Model : PySem.W.nsIn K mainGlobals "Model" = some (some (.ref C_Model))) {C_Found : Addr} (aC_Found : PySem.W.nsIn K mainGlobals "Found" = some (some (.ref C_Found))) {C_NoDrawing : Addr} (aC_NoDrawing : PySem.W.nsIn K mainGlobals "NoDrawing" = some (some (.ref C_NoDrawing))) {C_Fails : Addr} (aC_Fails : PySem.W.nsIn K mainGlobals "Fails" = some (some (.ref C_Fails))) {C_Always : Addr} (aC_Always : PySem.W.nsIn K mainGlobals "Always" = some (some (.ref C_Always))) {C_Inverse : Addr} (aC_Inverse : PySem.W.nsIn K mainGlobals "Inverse" = some (some (.ref C_Inverse))) {C_Nothing : Addr} (aC_Nothing : PySem.W.nsIn K mainGlobals "Nothing" = some (some (.ref C_Nothing))) {C_Split : Addr} (aC_Split : PySem.W.nsIn K mainGlobals "Split" = some (some (.ref C_Split))) {f_Always__init__ : Addr} {oc_Always__init__ kV_Always__init__ dc_Always__init__ pm_Always__init__ cd_Always__init__ ct_Always__init__ : Value} {od_Always__init__ an_Always__init__ : Option Addr} {sl_Always__init__ : Array (Option Value)} (i_Always__init__ : PySem.W.findIn K (.ref C_Always) "__init__" = some (some (.ref f_Always__init__))) (l_Always__init__ : K.lookup f_Always__init__ = some ⟨oc_Always__init__, od_Always__init__, .func (PySem.W.fnOf "__init__" "Always.__init__" (defArgs s_Always__init__) (defBody s_Always__init__) (defScope s_Always__init__) .none kV_Always__init__ dc_Always__init__ pm_Always__init__ an_Always__init__ cd_Always__init__ ct_Always__init__), sl_Always__init__⟩) (c_Always__init__ : PySem.W.codeIn K cd_Always__init__ "Always.__init__" = true) (k_Always__init__ : PySem.W.keepIn K (.ref f_Always__init__) = true) (m_Always__init__ : mkB K C_Always f_Always__init__ = true) {f_Always__eq__ : Addr} {oc_Always__eq__ kV_Always__eq__ dc_Always__eq__ pm_Always__eq__ cd_Always__eq__ ct_Always__eq__ : Value} {od_Always__eq__ an_Always__eq__ : Option Addr} {sl_Always__eq__ : Array (Option Value)} (i_Always__eq__ : PySem.W.findIn K (.ref C_Always) "__eq__" = some (some (.ref f_Always__eq__))) (l_Always__eq__ : K.lookup f_Always__eq__ = some ⟨oc_Always__eq__, od_Always__eq__, .func (PySem.W.fnOf "__eq__" "Always.__eq__" (defArgs s_Always__eq__) (defBody s_Always__eq__) (defScope s_Always__eq__) .none kV_Always__eq__ dc_Always__eq__ pm_Always__eq__ an_Always__eq__ cd_Always__eq__ ct_Always__eq__), sl_Always__eq__⟩) (c_Always__eq__ : PySem.W.codeIn K cd_Always__eq__ "Always.__eq__" = true) (k_Always__eq__ : PySem.W.keepIn K (.ref f_Always__eq__) = true) (m_Always__eq__ : methB K C_Always f_Always__eq__ "__eq__" = true) {f_Always__ne__ : Addr} {oc_Always__ne__ kV_Always__ne__ dc_Always__ne__ pm_Always__ne__ cd_Always__ne__ ct_Always__ne__ : Value} {od_Always__ne__ an_Always__ne__ : Option Addr} {sl_Always__ne__ : Array (Option Value)} (i_Always__ne__ : PySem.W.findIn K (.ref C_Always) "__ne__" = some (some (.ref f_Always__ne__))) (l_Always__ne__ : K.lookup f_Always__ne__ = some ⟨oc_Always__ne__, od_Always__ne__, .func (PySem.W.fnOf "__ne__" "Always.__ne__" (defArgs s_Always__ne__) (defBody s_Always__ne__) (defScope s_Always__ne__) .none kV_Always__ne__ dc_Always__ne__ pm_Always__ne__ an_Always__ne__ cd_Always__ne__ ct_Always__ne__), sl_Always__ne__⟩) (c_Always__ne__ : PySem.W.codeIn K cd_Always__ne__ "Always.__ne__" = true) (k_Always__ne__ : PySem.W.keepIn K (.ref f_Always__ne__) = true) (m_Always__ne__ : methB K C_Always f_Always__ne__ "__ne__" = true) {f_Fails__init__ : Addr} {oc_Fails__init__ kV_Fails__init__ dc_Fails__init__ pm_Fails__init__ cd_Fails__init__ ct_Fails__init__ : Value} {od_Fails__init__ an_Fails__init__ : Option Addr} {sl_Fails__init__ : Array (Option Value)} (i_Fails__init__ : PySem.W.findIn K (.ref C_Fails) "__init__" = some (some (.ref f_Fails__init__))) (l_Fails__init__ : K.lookup f_Fails__init__ = some ⟨oc_Fails__init__, od_Fails__init__, .func (PySem.W.fnOf "__init__" "Fails.__init__" (defArgs s_Fails__init__) (defBody s_Fails__init__) (defScope s_Fails__init__) .none kV_Fails__init__ dc_Fails__init__ pm_Fails__init__ an_Fails__init__ cd_Fails__init__ ct_Fails__init__), sl_Fails__init__⟩) (c_Fails__init__ : PySem.W.codeIn K cd_Fails__init__ "Fails.__init__" = true) (k_Fails__init__ : PySem.W.keepIn K (.ref f_Fails__init__) = true) (m_Fails__init__ : mkB K C_Fails f_Fails__init__ = true) {f_Fails__eq__ : Addr} {oc_Fails__eq__ kV_Fails__eq__ dc_Fails__eq__ pm_Fails__eq__ cd_Fails__eq__ ct_Fails__eq__ : Value} {od_Fails__eq__ an_Fails__eq__ : Option Addr} {sl_Fails__eq__ : Array (Option Value)} (i_Fails__eq__ : PySem.W.findIn K (.ref C_Fails) "__eq__" = some (some (.ref f_Fails__eq__))) (l_Fails__eq__ : K.lookup f_Fails__eq__ = some ⟨oc_Fails__eq__, od_Fails__eq__, .func (PySem.W.fnOf "__eq__" "Fails.__eq__" (defArgs s_Fails__eq__) (defBody s_Fails__eq__) (defScope s_Fails__eq__) .none kV_Fails__eq__ dc_Fails__eq__ pm_Fails__eq__ an_Fails__eq__ cd_Fails__eq__ ct_Fails__eq__), sl_Fails__eq__⟩) (c_Fails__eq__ : PySem.W.codeIn K cd_Fails__eq__ "Fails.__eq__" = true) (k_Fails__eq__ : PySem.W.keepIn K (.ref f_Fails__eq__) = true) (m_Fails__eq__ : methB K C_Fails f_Fails__eq__ "__eq__" = true) {f_Fails__ne__ : Addr} {oc_Fails__ne__ kV_Fails__ne__ dc_Fails__ne__ pm_Fails__ne__ cd_Fails__ne__ ct_Fails__ne__ : Value} {od_Fails__ne__ an_Fails__ne__ : Option Addr} {sl_Fails__ne__ : Array (Option Value)} (i_Fails__ne__ : PySem.W.findIn K (.ref C_Fails) "__ne__" = some (some (.ref f_Fails__ne__))) (l_Fails__ne__ : K.lookup f_Fails__ne__ = some ⟨oc_Fails__ne__, od_Fails__ne__, .func (PySem.W.fnOf "__ne__" "Fails.__ne__" (defArgs s_Fails__ne__) (defBody s_Fails__ne__) (defScope s_Fails__ne__) .none kV_Fails__ne__ dc_Fails__ne__ pm_Fails__ne__ an_Fails__ne__ cd_Fails__ne__ ct_Fails__ne__), sl_Fails__ne__⟩) (c_Fails__ne__ : PySem.W.codeIn K cd_Fails__ne__ "Fails.__ne__" = true) (k_Fails__ne__ : PySem.W.keepIn K (.ref f_Fails__ne__) = true) (m_Fails__ne__ : methB K C_Fails f_Fails__ne__ "__ne__" = true) {f_NoDrawing__init__ : Addr} {oc_NoDrawing__init__ kV_NoDrawing__init__ dc_NoDrawing__init__ pm_NoDrawing__init__ cd_NoDrawing__init__ ct_NoDrawing__init__ : Value} {od_NoDrawing__init__ an_NoDrawing__init__ : Option Addr} {sl_NoDrawing__init__ : Array (Option Value)} (i_NoDrawing__init__ : PySem.W.findIn K (.ref C_NoDrawing) "__init__" = some (some (.ref f_NoDrawing__init__))) (l_NoDrawing__init__ : K.lookup f_NoDrawing__init__ = some ⟨oc_NoDrawing__init__, od_NoDrawing__init__, .func (PySem.W.fnOf "__init__" "NoDrawing.__init__" (defArgs s_NoDrawing__init__) (defBody s_NoDrawing__init__) (defScope s_NoDrawing__init__) .none kV_NoDrawing__init__ dc_NoDrawing__init__ pm_NoDrawing__init__ an_NoDrawing__init__ cd_NoDrawing__init__ ct_NoDrawing__init__), sl_NoDrawing__init__⟩) (c_NoDrawing__init__ : PySem.W.codeIn K cd_NoDrawing__init__ "NoDrawing.__init__" = true) (k_NoDrawing__init__ : PySem.W.keepIn K (.ref f_NoDrawing__init__) = true) (m_NoDrawing__init__ : mkB K C_NoDrawing f_NoDrawing__init__ = true) {f_NoDrawing__eq__ : Addr} {oc_NoDrawing__eq__ kV_NoDrawing__eq__ dc_NoDrawing__eq__ pm_NoDrawing__eq__ cd_NoDrawing__eq__ ct_NoDrawing__eq__ : Value} {od_NoDrawing__eq__ an_NoDrawing__eq__ : Option Addr} {sl_NoDrawing__eq__ : Array (Option Value)} (i_NoDrawing__eq__ : PySem.W.findIn K (.ref C_NoDrawing) "__eq__" = some (some (.ref f_NoDrawing__eq__))) (l_NoDrawing__eq__ : K.lookup f_NoDrawing__eq__ = some ⟨oc_NoDrawing__eq__, od_NoDrawing__eq__, .func (PySem.W.fnOf "__eq__" "NoDrawing.__eq__" (defArgs s_NoDrawing__eq__) (defBody s_NoDrawing__eq__) (defScope s_NoDrawing__eq__) .none kV_NoDrawing__eq__ dc_NoDrawing__eq__ pm_NoDrawing__eq__ an_NoDrawing__eq__ cd_NoDrawing__eq__ ct_NoDrawing__eq__), sl_NoDrawing__eq__⟩) (c_NoDrawing__eq__ : PySem.W.codeIn K cd_NoDrawing__eq__ "NoDrawing.__eq__" = true) (k_NoDrawing__eq__ : PySem.W.keepIn K (.ref f_NoDrawing__eq__) = true) (m_NoDrawing__eq__ : methB K C_NoDrawing f_NoDrawing__eq__ "__eq__" = true) {f_NoDrawing__ne__ : Addr} {oc_NoDrawing__ne__ kV_NoDrawing__ne__ dc_NoDrawing__ne__ pm_NoDrawing__ne__ cd_NoDrawing__ne__ ct_NoDrawing__ne__ : Value} {od_NoDrawing__ne__ an_NoDrawing__ne__ : Option Addr} {sl_NoDrawing__ne__ : Array (Option Value)} (i_NoDrawing__ne__ : PySem.W.findIn K (.ref C_NoDrawing) "__ne__" = some (some (.ref f_NoDrawing__ne__))) (l_NoDrawing__ne__ : K.lookup f_NoDrawing__ne__ = some ⟨oc_NoDrawing__ne__, od_NoDrawing__ne__, .func (PySem.W.fnOf "__ne__" "NoDrawing.__ne__" (defArgs s_NoDrawing__ne__) (defBody s_NoDrawing__ne__) (defScope s_NoDrawing__ne__) .none kV_NoDrawing__ne__ dc_NoDrawing__ne__ pm_NoDrawing__ne__ an_NoDrawing__ne__ cd_NoDrawing__ne__ ct_NoDrawing__ne__), sl_NoDrawing__ne__⟩) (c_NoDrawing__ne__ : PySem.W.codeIn K cd_NoDrawing__ne__ "NoDrawing.__ne__" = true) (k_NoDrawing__ne__ : PySem.W.keepIn K (.ref f_NoDrawing__ne__) = true) (m_NoDrawing__ne__ : methB K C_NoDrawing f_NoDrawing__ne__ "__ne__" = true) {f_Found__init__ : Addr} {oc_Found__init__ kV_Found__init__ dc_Found__init__ pm_Found__init__ cd_Found__init__ ct_Found__init__ : Value} {od_Found__init__ an_Found__init__ : Option Addr} {sl_Found__init__ : Array (Option Value)} (i_Found__init__ : PySem.W.findIn K (.ref C_Found) "__init__" = some (some (.ref f_Found__init__))) (l_Found__init__ : K.lookup f_Found__init__ = some ⟨oc_Found__init__, od_Found__init__, .func (PySem.W.fnOf "__init__" "Found.__init__" (defArgs s_Found__init__) (defBody s_Found__init__) (defScope s_Found__init__) .none kV_Found__init__ dc_Found__init__ pm_Found__init__ an_Found__init__ cd_Found__init__ ct_Found__init__), sl_Found__init__⟩) (c_Found__init__ : PySem.W.codeIn K cd_Found__init__ "Found.__init__" = true) (k_Found__init__ : PySem.W.keepIn K (.ref f_Found__init__) = true) (m_Found__init__ : mkB K C_Found f_Found__init__ = true) {f_Model__init__ : Addr} {oc_Model__init__ kV_Model__init__ dc_Model__init__ pm_Model__init__ cd_Model__init__ ct_Model__init__ : Value} {od_Model__init__ an_Model__init__ : Option Addr} {sl_Model__init__ : Array (Option Value)} (i_Model__init__ : PySem.W.findIn K (.ref C_Model) "__init__" = some (some (.ref f_Model__init__))) (l_Model__init__ : K.lookup f_Model__init__ = some ⟨oc_Model__init__, od_Model__init__, .func (PySem.W.fnOf "__init__" "Model.__init__" (defArgs s_Model__init__) (defBody s_Model__init__) (defScope s_Model__init__) .none kV_Model__init__ dc_Model__init__ pm_Model__init__ an_Model__init__ cd_Model__init__ ct_Model__init__), sl_Model__init__⟩) (c_Model__init__ : PySem.W.codeIn K cd_Model__init__ "Model.__init__" = true) (k_Model__init__ : PySem.W.keepIn K (.ref f_Model__init__) = true) (m_Model__init__ : mkB K C_Model f_Model__init__ = true) {f_Model__eq__ : Addr} {oc_Model__eq__ kV_Model__eq__ dc_Model__eq__ pm_Model__eq__ cd_Model__eq__ ct_Model__eq__ : Value} {od_Model__eq__ an_Model__eq__ : Option Addr} {sl_Model__eq__ : Array (Option Value)} (i_Model__eq__ : PySem.W.findIn K (.ref C_Model) "__eq__" = some (some (.ref f_Model__eq__))) (l_Model__eq__ : K.lookup f_Model__eq__ = some ⟨oc_Model__eq__, od_Model__eq__, .func (PySem.W.fnOf "__eq__" "Model.__eq__" (defArgs s_Model__eq__) (defBody s_Model__eq__) (defScope s_Model__eq__) .none kV_Model__eq__ dc_Model__eq__ pm_Model__eq__ an_Model__eq__ cd_Model__eq__ ct_Model__eq__), sl_Model__eq__⟩) (c_Model__eq__ : PySem.W.codeIn K cd_Model__eq__ "Model.__eq__" = true) (k_Model__eq__ : PySem.W.keepIn K (.ref f_Model__eq__) = true) (m_Model__eq__ : methB K C_Model f_Model__eq__ "__eq__" = true) {f_Model__ne__ : Addr} {oc_Model__ne__ kV_Model__ne__ dc_Model__ne__ pm_Model__ne__ cd_Model__ne__ ct_Model__ne__ : Value} {od_Model__ne__ an_Model__ne__ : Option Addr} {sl_Model__ne__ : Array (Option Value)} (i_Model__ne__ : PySem.W.findIn K (.ref C_Model) "__ne__" = some (some (.ref f_Model__ne__))) (l_Model__ne__ : K.lookup f_Model__ne__ = some ⟨oc_Model__ne__, od_Model__ne__, .func (PySem.W.fnOf "__ne__" "Model.__ne__" (defArgs s_Model__ne__) (defBody s_Model__ne__) (defScope s_Model__ne__) .none kV_Model__ne__ dc_Model__ne__ pm_Model__ne__ an_Model__ne__ cd_Model__ne__ ct_Model__ne__), sl_Model__ne__⟩) (c_Model__ne__ : PySem.W.codeIn K cd_Model__ne__ "Model.__ne__" = true) (k_Model__ne__ : PySem.W.keepIn K (.ref f_Model__ne__) = true) (m_Model__ne__ : methB K C_Model f_Model__ne__ "__ne__" = true) {f_Paper__init__ : Addr} {oc_Paper__init__ kV_Paper__init__ dc_Paper__init__ pm_Paper__init__ cd_Paper__init__ ct_Paper__init__ : Value} {od_Paper__init__ an_Paper__init__ : Option Addr} {sl_Paper__init__ : Array (Option Value)} (i_Paper__init__ : PySem.W.findIn K (.ref C_Paper) "__init__" = some (some (.ref f_Paper__init__))) (l_Paper__init__ : K.lookup f_Paper__init__ = some ⟨oc_Paper__init__, od_Paper__init__, .func (PySem.W.fnOf "__init__" "Paper.__init__" (defArgs s_Paper__init__) (defBody s_Paper__init__) (defScope s_Paper__init__) .none kV_Paper__init__ dc_Paper__init__ pm_Paper__init__ an_Paper__init__ cd_Paper__init__ ct_Paper__init__), sl_Paper__init__⟩) (c_Paper__init__ : PySem.W.codeIn K cd_Paper__init__ "Paper.__init__" = true) (k_Paper__init__ : PySem.W.keepIn K (.ref f_Paper__init__) = true) (m_Paper__init__ : mkB K C_Paper f_Paper__init__ = true) {f_Paper__eq__ : Addr} {oc_Paper__eq__ kV_Paper__eq__ dc_Paper__eq__ pm_Paper__eq__ cd_Paper__eq__ ct_Paper__eq__ : Value} {od_Paper__eq__ an_Paper__eq__ : Option Addr} {sl_Paper__eq__ : Array (Option Value)} (i_Paper__eq__ : PySem.W.findIn K (.ref C_Paper) "__eq__" = some (some (.ref f_Paper__eq__))) (l_Paper__eq__ : K.lookup f_Paper__eq__ = some ⟨oc_Paper__eq__, od_Paper__eq__, .func (PySem.W.fnOf "__eq__" "Paper.__eq__" (defArgs s_Paper__eq__) (defBody s_Paper__eq__) (defScope s_Paper__eq__) .none kV_Paper__eq__ dc_Paper__eq__ pm_Paper__eq__ an_Paper__eq__ cd_Paper__eq__ ct_Paper__eq__), sl_Paper__eq__⟩) (c_Paper__eq__ : PySem.W.codeIn K cd_Paper__eq__ "Paper.__eq__" = true) (k_Paper__eq__ : PySem.W.keepIn K (.ref f_Paper__eq__) = true) (m_Paper__eq__ : methB K C_Paper f_Paper__eq__ "__eq__" = true) {f_Paper__ne__ : Addr} {oc_Paper__ne__ kV_Paper__ne__ dc_Paper__ne__ pm_Paper__ne__ cd_Paper__ne__ ct_Paper__ne__ : Value} {od_Paper__ne__ an_Paper__ne__ : Option Addr} {sl_Paper__ne__ : Array (Option Value)} (i_Paper__ne__ : PySem.W.findIn K (.ref C_Paper) "__ne__" = some (some (.ref f_Paper__ne__))) (l_Paper__ne__ : K.lookup f_Paper__ne__ = some ⟨oc_Paper__ne__, od_Paper__ne__, .func (PySem.W.fnOf "__ne__" "Paper.__ne__" (defArgs s_Paper__ne__) (defBody s_Paper__ne__) (defScope s_Paper__ne__) .none kV_Paper__ne__ dc_Paper__ne__ pm_Paper__ne__ an_Paper__ne__ cd_Paper__ne__ ct_Paper__ne__), sl_Paper__ne__⟩) (c_Paper__ne__ : PySem.W.codeIn K cd_Paper__ne__ "Paper.__ne__" = true) (k_Paper__ne__ : PySem.W.keepIn K (.ref f_Paper__ne__) = true) (m_Paper__ne__ : methB K C_Paper f_Paper__ne__ "__ne__" = true) {f_Leaf__init__ : Addr} {oc_Leaf__init__ kV_Leaf__init__ dc_Leaf__init__ pm_Leaf__init__ cd_Leaf__init__ ct_Leaf__init__ : Value} {od_Leaf__init__ an_Leaf__init__ : Option Addr} {sl_Leaf__init__ : Array (Option Value)} (i_Leaf__init__ : PySem.W.findIn K (.ref C_Leaf) "__init__" = some (some (.ref f_Leaf__init__))) (l_Leaf__init__ : K.lookup f_Leaf__init__ = some ⟨oc_Leaf__init__, od_Leaf__init__, .func (PySem.W.fnOf "__init__" "Leaf.__init__" (defArgs s_Leaf__init__) (defBody s_Leaf__init__) (defScope s_Leaf__init__) .none kV_Leaf__init__ dc_Leaf__init__ pm_Leaf__init__ an_Leaf__init__ cd_Leaf__init__ ct_Leaf__init__), sl_Leaf__init__⟩) (c_Leaf__init__ : PySem.W.codeIn K cd_Leaf__init__ "Leaf.__init__" = true) (k_Leaf__init__ : PySem.W.keepIn K (.ref f_Leaf__init__) = true) (m_Leaf__init__ : mkB K C_Leaf f_Leaf__init__ = true) {f_Leaf__eq__ : Addr} {oc_Leaf__eq__ kV_Leaf__eq__ dc_Leaf__eq__ pm_Leaf__eq__ cd_Leaf__eq__ ct_Leaf__eq__ : Value} {od_Leaf__eq__ an_Leaf__eq__ : Option Addr} {sl_Leaf__eq__ : Array (Option Value)} (i_Leaf__eq__ : PySem.W.findIn K (.ref C_Leaf) "__eq__" = some (some (.ref f_Leaf__eq__))) (l_Leaf__eq__ : K.lookup f_Leaf__eq__ = some ⟨oc_Leaf__eq__, od_Leaf__eq__, .func (PySem.W.fnOf "__eq__" "Leaf.__eq__" (defArgs s_Leaf__eq__) (defBody s_Leaf__eq__) (defScope s_Leaf__eq__) .none kV_Leaf__eq__ dc_Leaf__eq__ pm_Leaf__eq__ an_Leaf__eq__ cd_Leaf__eq__ ct_Leaf__eq__), sl_Leaf__eq__⟩) (c_Leaf__eq__ : PySem.W.codeIn K cd_Leaf__eq__ "Leaf.__eq__" = true) (k_Leaf__eq__ : PySem.W.keepIn K (.ref f_Leaf__eq__) = true) (m_Leaf__eq__ : methB K C_Leaf f_Leaf__eq__ "__eq__" = true) {f_Leaf__ne__ : Addr} {oc_Leaf__ne__ kV_Leaf__ne__ dc_Leaf__ne__ pm_Leaf__ne__ cd_Leaf__ne__ ct_Leaf__ne__ : Value} {od_Leaf__ne__ an_Leaf__ne__ : Option Addr} {sl_Leaf__ne__ : Array (Option Value)} (i_Leaf__ne__ : PySem.W.findIn K (.ref C_Leaf) "__ne__" = some (some (.ref f_Leaf__ne__))) (l_Leaf__ne__ : K.lookup f_Leaf__ne__ = some ⟨oc_Leaf__ne__, od_Leaf__ne__, .func (PySem.W.fnOf "__ne__" "Leaf.__ne__" (defArgs s_Leaf__ne__) (defBody s_Leaf__ne__) (defScope s_Leaf__ne__) .none kV_Leaf__ne__ dc_Leaf__ne__ pm_Leaf__ne__ an_Leaf__ne__ cd_Leaf__ne__ ct_Leaf__ne__), sl_Leaf__ne__⟩) (c_Leaf__ne__ : PySem.W.codeIn K cd_Leaf__ne__ "Leaf.__ne__" = true) (k_Leaf__ne__ : PySem.W.keepIn K (.ref f_Leaf__ne__) = true) (m_Leaf__ne__ : methB K C_Leaf f_Leaf__ne__ "__ne__" = true) {f_Inverse__init__ : Addr} {oc_Inverse__init__ kV_Inverse__init__ dc_Inverse__init__ pm_Inverse__init__ cd_Inverse__init__ ct_Inverse__init__ : Value} {od_Inverse__init__ an_Inverse__init__ : Option Addr} {sl_Inverse__init__ : Array (Option Value)} (i_Inverse__init__ : PySem.W.findIn K (.ref C_Inverse) "__init__" = some (some (.ref f_Inverse__init__))) (l_Inverse__init__ : K.lookup f_Inverse__init__ = some ⟨oc_Inverse__init__, od_Inverse__init__, .func (PySem.W.fnOf "__init__" "Inverse.__init__" (defArgs s_Inverse__init__) (defBody s_Inverse__init__) (defScope s_Inverse__init__) .none kV_Inverse__init__ dc_Inverse__init__ pm_Inverse__init__ an_Inverse__init__ cd_Inverse__init__ ct_Inverse__init__), sl_Inverse__init__⟩) (c_Inverse__init__ : PySem.W.codeIn K cd_Inverse__init__ "Inverse.__init__" = true) (k_Inverse__init__ : PySem.W.keepIn K (.ref f_Inverse__init__) = true) (m_Inverse__init__ : mkB K C_Inverse f_Inverse__init__ = true) {f_Split__init__ : Addr} {oc_Split__init__ kV_Split__init__ dc_Split__init__ pm_Split__init__ cd_Split__init__ ct_Split__init__ : Value} {od_Split__init__ an_Split__init__ : Option Addr} {sl_Split__init__ : Array (Option Value)} (i_Split__init__ : PySem.W.findIn K (.ref C_Split) "__init__" = some (some (.ref f_Split__init__))) (l_Split__init__ : K.lookup f_Split__init__ = some ⟨oc_Split__init__, od_Split__init__, .func (PySem.W.fnOf "__init__" "Split.__init__" (defArgs s_Split__init__) (defBody s_Split__init__) (defScope s_Split__init__) .none kV_Split__init__ dc_Split__init__ pm_Split__init__ an_Split__init__ cd_Split__init__ ct_Split__init__), sl_Split__init__⟩) (c_Split__init__ : PySem.W.codeIn K cd_Split__init__ "Split.__init__" = true) (k_Split__init__ : PySem.W.keepIn K (.ref f_Split__init__) = true) (m_Split__init__ : mkB K C_Split f_Split__init__ = true) (mz_Nothing : mk0B K C_Nothing = true) (zm_list : PySem.W.nsIn K mainGlobals "list" = some none) (zm_isinstance : PySem.W.nsIn K mainGlobals "isinstance" = some none) (zm_tuple : PySem.W.nsIn K mainGlobals "tuple" = some none) (ct : clsTB K (CT C_Always C_Fails C_NoDrawing C_Found C_Model C_Paper C_Leaf C_Inverse C_Nothing C_Split) = true) (zm_int : PySem.W.nsIn K mainGlobals "int" = some none) (zm_len : PySem.W.nsIn K mainGlobals "len" = some none) (zm_range : PySem.W.nsIn K mainGlobals "range" = some none) (zm_repr : PySem.W.nsIn K mainGlobals "repr" = some none) {c_law0 : Addr} {f_law : Addr} {oc_law kV_law dc_law pm_law ct_law : Value} {od_law an_law : Option Addr} {sl_law : Array (Option Value)} (a_law : PySem.W.nsIn K mainGlobals "law" = some (some (.ref f_law))) (l_law : K.lookup f_law = some ⟨oc_law, od_law, .func (PySem.W.fnOf "law" "law" (defArgs s_law) (defBody s_law) (defScope s_law) .none kV_law dc_law pm_law an_law (.ref c_law0) ct_law), sl_law⟩) (ci_law : PySem.W.codeIn K (.ref c_law0) "law" = true) (k_law : PySem.W.keepIn K (.ref f_law) = true) : LawAtN l w K 5 63 "script" mg fa h := by
  have efa := hfa.symm.trans (PySem.W.mg_of X G a_law)
  cases efa
  have F_copied : DefF K mg "copied" s_copied ["value"] := defF_mk X G a_copied l_copied c_copied k_copied (fun _ F => F.binds fun _ _ _ _ _ _ us hl => match us, hl with | [_], _ => rfl)
  have F_model_key : DefF K mg "model_key" s_model_key ["model"] := defF_mk X G a_model_key l_model_key c_model_key k_model_key (fun _ F => F.binds fun _ _ _ _ _ _ us hl => match us, hl with | [_], _ => rfl)
  have F_leaf_key : DefF K mg "leaf_key" s_leaf_key ["leaf"] := defF_mk X G a_leaf_key l_leaf_key c_leaf_key k_leaf_key (fun _ F => F.binds fun _ _ _ _ _ _ us hl => match us, hl with | [_], _ => rfl)
  have F_paper_key : DefF K mg "paper_key" s_paper_key ["paper"] := defF_mk X G a_paper_key l_paper_key c_paper_key k_paper_key (fun _ F => F.binds fun _ _ _ _ _ _ us hl => match us, hl with | [_], _ => rfl)
  have F__law_pen : DefF K mg "_law_pen" s__law_pen ["script"] := defF_mk X G a__law_pen l__law_pen c__law_pen k__law_pen (fun _ F => F.binds fun _ _ _ _ _ _ us hl => match us, hl with | [_], _ => rfl)
  have F__law_draw : DefF K mg "_law_draw" s__law_draw ["pen", "many"] := defF_mk X G a__law_draw l__law_draw c__law_draw k__law_draw (fun _ F => F.binds fun _ _ _ _ _ _ us hl => match us, hl with | [_, _], _ => rfl)
  have F__law_pick : DefF K mg "_law_pick" s__law_pick ["pen", "some"] := defF_mk X G a__law_pick l__law_pick c__law_pick k__law_pick (fun _ F => F.binds fun _ _ _ _ _ _ us hl => match us, hl with | [_, _], _ => rfl)
  have F__law_value : DefF K mg "_law_value" s__law_value ["pen"] := defF_mk X G a__law_value l__law_value c__law_value k__law_value (fun _ F => F.binds fun _ _ _ _ _ _ us hl => match us, hl with | [_], _ => rfl)
  have F__law_copy : DefF K mg "_law_copy" s__law_copy ["value"] := defF_mk X G a__law_copy l__law_copy c__law_copy k__law_copy (fun _ F => F.binds fun _ _ _ _ _ _ us hl => match us, hl with | [_], _ => rfl)
  have F__law_fields : DefF K mg "_law_fields" s__law_fields ["one"] := defF_mk X G a__law_fields l__law_fields c__law_fields k__law_fields (fun _ F => F.binds fun _ _ _ _ _ _ us hl => match us, hl with | [_], _ => rfl)
  have F__law_rows : DefF K mg "_law_rows" s__law_rows ["a", "b", "c", "d"] := defF_mk X G a__law_rows l__law_rows c__law_rows k__law_rows (fun _ F => F.binds fun _ _ _ _ _ _ us hl => match us, hl with | [_, _, _, _], _ => rfl)
  have mC_Leaf := PySem.W.mg_of X G aC_Leaf
  have mC_Paper := PySem.W.mg_of X G aC_Paper
  have mC_Model := PySem.W.mg_of X G aC_Model
  have mC_Found := PySem.W.mg_of X G aC_Found
  have mC_NoDrawing := PySem.W.mg_of X G aC_NoDrawing
  have mC_Fails := PySem.W.mg_of X G aC_Fails
  have mC_Always := PySem.W.mg_of X G aC_Always
  have mC_Inverse := PySem.W.mg_of X G aC_Inverse
  have mC_Nothing := PySem.W.mg_of X G aC_Nothing
  have mC_Split := PySem.W.mg_of X G aC_Split
  have I_Always : InitF K mg "Always" "Always.__init__" s_Always__init__ C_Always fs_Always false ["self", "unless"] := initF_mk X G aC_Always l_Always__init__ c_Always__init__ k_Always__init__ m_Always__init__ (fun _ F => F.binds fun _ _ _ _ _ _ us hl => match us, hl with | [_, _], _ => rfl) (fun self ws hl => match ws, hl with | [_], _ => rfl)
  have ME_Always : MethF K "__eq__" "Always.__eq__" s_Always__eq__ C_Always ["self", "other"] := methF_mk l_Always__eq__ c_Always__eq__ k_Always__eq__ m_Always__eq__ (fun _ F => F.binds fun _ _ _ _ _ _ us hl => match us, hl with | [_, _], _ => rfl)
  have MN_Always : MethF K "__ne__" "Always.__ne__" s_Always__ne__ C_Always ["self", "other"] := methF_mk l_Always__ne__ c_Always__ne__ k_Always__ne__ m_Always__ne__ (fun _ F => F.binds fun _ _ _ _ _ _ us hl => match us, hl with | [_, _], _ => rfl)
  have I_Fails : InitF K mg "Fails" "Fails.__init__" s_Fails__init__ C_Fails fs_Fails true ["self", "row", "leaf"] := initF_mk X G aC_Fails l_Fails__init__ c_Fails__init__ k_Fails__init__ m_Fails__init__ (fun _ F => F.binds fun _ _ _ _ _ _ us hl => match us, hl with | [_, _, _], _ => rfl) (fun self ws hl => match ws, hl with | [_, _], _ => rfl)
  have ME_Fails : MethF K "__eq__" "Fails.__eq__" s_Fails__eq__ C_Fails ["self", "other"] := methF_mk l_Fails__eq__ c_Fails__eq__ k_Fails__eq__ m_Fails__eq__ (fun _ F => F.binds fun _ _ _ _ _ _ us hl => match us, hl with | [_, _], _ => rfl)
  have MN_Fails : MethF K "__ne__" "Fails.__ne__" s_Fails__ne__ C_Fails ["self", "other"] := methF_mk l_Fails__ne__ c_Fails__ne__ k_Fails__ne__ m_Fails__ne__ (fun _ F => F.binds fun _ _ _ _ _ _ us hl => match us, hl with | [_, _], _ => rfl)
  have I_NoDrawing : InitF K mg "NoDrawing" "NoDrawing.__init__" s_NoDrawing__init__ C_NoDrawing fs_NoDrawing false ["self", "step"] := initF_mk X G aC_NoDrawing l_NoDrawing__init__ c_NoDrawing__init__ k_NoDrawing__init__ m_NoDrawing__init__ (fun _ F => F.binds fun _ _ _ _ _ _ us hl => match us, hl with | [_, _], _ => rfl) (fun self ws hl => match ws, hl with | [_], _ => rfl)
  have ME_NoDrawing : MethF K "__eq__" "NoDrawing.__eq__" s_NoDrawing__eq__ C_NoDrawing ["self", "other"] := methF_mk l_NoDrawing__eq__ c_NoDrawing__eq__ k_NoDrawing__eq__ m_NoDrawing__eq__ (fun _ F => F.binds fun _ _ _ _ _ _ us hl => match us, hl with | [_, _], _ => rfl)
  have MN_NoDrawing : MethF K "__ne__" "NoDrawing.__ne__" s_NoDrawing__ne__ C_NoDrawing ["self", "other"] := methF_mk l_NoDrawing__ne__ c_NoDrawing__ne__ k_NoDrawing__ne__ m_NoDrawing__ne__ (fun _ F => F.binds fun _ _ _ _ _ _ us hl => match us, hl with | [_, _], _ => rfl)
  have I_Found : InitF K mg "Found" "Found.__init__" s_Found__init__ C_Found fs_Found false ["self", "claims", "answers", "paper"] := initF_mk X G aC_Found l_Found__init__ c_Found__init__ k_Found__init__ m_Found__init__ (fun _ F => F.binds fun _ _ _ _ _ _ us hl => match us, hl with | [_, _, _, _], _ => rfl) (fun self ws hl => match ws, hl with | [_, _, _], _ => rfl)
  have I_Model : InitF K mg "Model" "Model.__init__" s_Model__init__ C_Model fs_Model true ["self", "steps", "claims"] := initF_mk X G aC_Model l_Model__init__ c_Model__init__ k_Model__init__ m_Model__init__ (fun _ F => F.binds fun _ _ _ _ _ _ us hl => match us, hl with | [_, _, _], _ => rfl) (fun self ws hl => match ws, hl with | [_, _], _ => rfl)
  have ME_Model : MethF K "__eq__" "Model.__eq__" s_Model__eq__ C_Model ["self", "other"] := methF_mk l_Model__eq__ c_Model__eq__ k_Model__eq__ m_Model__eq__ (fun _ F => F.binds fun _ _ _ _ _ _ us hl => match us, hl with | [_, _], _ => rfl)
  have MN_Model : MethF K "__ne__" "Model.__ne__" s_Model__ne__ C_Model ["self", "other"] := methF_mk l_Model__ne__ c_Model__ne__ k_Model__ne__ m_Model__ne__ (fun _ F => F.binds fun _ _ _ _ _ _ us hl => match us, hl with | [_, _], _ => rfl)
  have I_Paper : InitF K mg "Paper" "Paper.__init__" s_Paper__init__ C_Paper fs_Paper true ["self", "unless", "shares", "leaves", "numbers"] := initF_mk X G aC_Paper l_Paper__init__ c_Paper__init__ k_Paper__init__ m_Paper__init__ (fun _ F => F.binds fun _ _ _ _ _ _ us hl => match us, hl with | [_, _, _, _, _], _ => rfl) (fun self ws hl => match ws, hl with | [_, _, _, _], _ => rfl)
  have ME_Paper : MethF K "__eq__" "Paper.__eq__" s_Paper__eq__ C_Paper ["self", "other"] := methF_mk l_Paper__eq__ c_Paper__eq__ k_Paper__eq__ m_Paper__eq__ (fun _ F => F.binds fun _ _ _ _ _ _ us hl => match us, hl with | [_, _], _ => rfl)
  have MN_Paper : MethF K "__ne__" "Paper.__ne__" s_Paper__ne__ C_Paper ["self", "other"] := methF_mk l_Paper__ne__ c_Paper__ne__ k_Paper__ne__ m_Paper__ne__ (fun _ F => F.binds fun _ _ _ _ _ _ us hl => match us, hl with | [_, _], _ => rfl)
  have I_Leaf : InitF K mg "Leaf" "Leaf.__init__" s_Leaf__init__ C_Leaf fs_Leaf false ["self", "choices", "tower", "places", "inverses", "void"] := initF_mk X G aC_Leaf l_Leaf__init__ c_Leaf__init__ k_Leaf__init__ m_Leaf__init__ (fun _ F => F.binds fun _ _ _ _ _ _ us hl => match us, hl with | [_, _, _, _, _, _], _ => rfl) (fun self ws hl => match ws, hl with | [_, _, _, _, _], _ => rfl)
  have ME_Leaf : MethF K "__eq__" "Leaf.__eq__" s_Leaf__eq__ C_Leaf ["self", "other"] := methF_mk l_Leaf__eq__ c_Leaf__eq__ k_Leaf__eq__ m_Leaf__eq__ (fun _ F => F.binds fun _ _ _ _ _ _ us hl => match us, hl with | [_, _], _ => rfl)
  have MN_Leaf : MethF K "__ne__" "Leaf.__ne__" s_Leaf__ne__ C_Leaf ["self", "other"] := methF_mk l_Leaf__ne__ c_Leaf__ne__ k_Leaf__ne__ m_Leaf__ne__ (fun _ F => F.binds fun _ _ _ _ _ _ us hl => match us, hl with | [_, _], _ => rfl)
  have I_Inverse : InitF K mg "Inverse" "Inverse.__init__" s_Inverse__init__ C_Inverse fs_Inverse false ["self", "number"] := initF_mk X G aC_Inverse l_Inverse__init__ c_Inverse__init__ k_Inverse__init__ m_Inverse__init__ (fun _ F => F.binds fun _ _ _ _ _ _ us hl => match us, hl with | [_, _], _ => rfl) (fun self ws hl => match ws, hl with | [_], _ => rfl)
  have I_Split : InitF K mg "Split" "Split.__init__" s_Split__init__ C_Split fs_Split false ["self", "level", "r"] := initF_mk X G aC_Split l_Split__init__ c_Split__init__ k_Split__init__ m_Split__init__ (fun _ F => F.binds fun _ _ _ _ _ _ us hl => match us, hl with | [_, _, _], _ => rfl) (fun self ws hl => match ws, hl with | [_, _], _ => rfl)
  have z_Nothing := mk0B_ok mz_Nothing
  have m_list := PySem.W.mg_none_of X G zm_list
  have m_isinstance := PySem.W.mg_none_of X G zm_isinstance
  have m_tuple := PySem.W.mg_none_of X G zm_tuple
  have m_int := PySem.W.mg_none_of X G zm_int
  have m_len := PySem.W.mg_none_of X G zm_len
  have m_range := PySem.W.mg_none_of X G zm_range
  have m_repr := PySem.W.mg_none_of X G zm_repr
  have FL := fun_mk (st := s_law) l_law ci_law k_law
  refine ⟨PySem.W.fnOf "law" "law" (defArgs s_law) (defBody s_law) (defScope s_law) .none kV_law dc_law pm_law an_law (.ref c_law0) ct_law, [], (w_law K), (fun q hq => by cases hq), (fun q hq => by cases hq), (fun q hq => by cases hq), fun s u => .of_eq rfl, ?_, fun base KB GB TB => all_ok (P := l.prog) (w := w) (base := base) (F_copied := F_copied) (F_model_key := F_model_key) (F_leaf_key := F_leaf_key) (F_paper_key := F_paper_key) (F__law_pen := F__law_pen) (F__law_draw := F__law_draw) (F__law_pick := F__law_pick) (F__law_value := F__law_value) (F__law_copy := F__law_copy) (F__law_fields := F__law_fields) (F__law_rows := F__law_rows) (m_list := m_list) (m_isinstance := m_isinstance) (m_tuple := m_tuple) (ct := ct) (m_int := m_int) (m_len := m_len) (m_range := m_range) (mC_Leaf := mC_Leaf) (mC_Paper := mC_Paper) (mC_Model := mC_Model) (mC_Found := mC_Found) (mC_NoDrawing := mC_NoDrawing) (mC_Fails := mC_Fails) (mC_Always := mC_Always) (m_repr := m_repr) (mC_Inverse := mC_Inverse) (z_Nothing := z_Nothing) (mC_Nothing := mC_Nothing) (I_Always := I_Always) (ME_Always := ME_Always) (MN_Always := MN_Always) (I_Fails := I_Fails) (ME_Fails := ME_Fails) (MN_Fails := MN_Fails) (I_NoDrawing := I_NoDrawing) (ME_NoDrawing := ME_NoDrawing) (MN_NoDrawing := MN_NoDrawing) (I_Found := I_Found) (I_Model := I_Model) (ME_Model := ME_Model) (MN_Model := MN_Model) (I_Paper := I_Paper) (ME_Paper := ME_Paper) (MN_Paper := MN_Paper) (I_Leaf := I_Leaf) (ME_Leaf := ME_Leaf) (MN_Leaf := MN_Leaf) (I_Inverse := I_Inverse) (I_Split := I_Split) FL⟩
  · intro ns h1 h2
    exact ⟨ns, [], rfl, h1, rfl, fun _ => rfl⟩
end

end L90


open PySem PySem.W PyProof.Rows in
set_option maxRecDepth 100000 in
set_option maxHeartbeats 0 in
theorem PySem.Challenge.cw_drawproofs_k90_classes_made_by_hand_holds : PySem.Challenge.rw_drawproofs_k90_classes_made_by_hand.Holds := by
  w_on; o_law; k_head; (case hw => w_witness2)
  k_fill
  refine DL.walk_ofN (l := PySem.Challenge.rw_drawproofs_k90_classes_made_by_hand) (n := 63) (k := 5) (x := "script") rfl (by decide) rfl ⟨rfl, by decide, by decide⟩ (fun w h Y => PySem.W.kIn_of Y) ?F
  case F =>
    intro w mg fa h Y KX G hmg
    refine' L90.end_mk KX G hmg ?a_copied ?l_copied ?c_copied ?k_copied ?a_model_key ?l_model_key ?c_model_key ?k_model_key ?a_leaf_key ?l_leaf_key ?c_leaf_key ?k_leaf_key ?a_paper_key ?l_paper_key ?c_paper_key ?k_paper_key ?a__law_pen ?l__law_pen ?c__law_pen ?k__law_pen ?a__law_draw ?l__law_draw ?c__law_draw ?k__law_draw ?a__law_pick ?l__law_pick ?c__law_pick ?k__law_pick ?a__law_value ?l__law_value ?c__law_value ?k__law_value ?a__law_copy ?l__law_copy ?c__law_copy ?k__law_copy ?a__law_fields ?l__law_fields ?c__law_fields ?k__law_fields ?a__law_rows ?l__law_rows ?c__law_rows ?k__law_rows ?aC_Leaf ?aC_Paper ?aC_Model ?aC_Found ?aC_NoDrawing ?aC_Fails ?aC_Always ?aC_Inverse ?aC_Nothing ?aC_Split ?i_Always__init__ ?l_Always__init__ ?c_Always__init__ ?k_Always__init__ ?m_Always__init__ ?i_Always__eq__ ?l_Always__eq__ ?c_Always__eq__ ?k_Always__eq__ ?m_Always__eq__ ?i_Always__ne__ ?l_Always__ne__ ?c_Always__ne__ ?k_Always__ne__ ?m_Always__ne__ ?i_Fails__init__ ?l_Fails__init__ ?c_Fails__init__ ?k_Fails__init__ ?m_Fails__init__ ?i_Fails__eq__ ?l_Fails__eq__ ?c_Fails__eq__ ?k_Fails__eq__ ?m_Fails__eq__ ?i_Fails__ne__ ?l_Fails__ne__ ?c_Fails__ne__ ?k_Fails__ne__ ?m_Fails__ne__ ?i_NoDrawing__init__ ?l_NoDrawing__init__ ?c_NoDrawing__init__ ?k_NoDrawing__init__ ?m_NoDrawing__init__ ?i_NoDrawing__eq__ ?l_NoDrawing__eq__ ?c_NoDrawing__eq__ ?k_NoDrawing__eq__ ?m_NoDrawing__eq__ ?i_NoDrawing__ne__ ?l_NoDrawing__ne__ ?c_NoDrawing__ne__ ?k_NoDrawing__ne__ ?m_NoDrawing__ne__ ?i_Found__init__ ?l_Found__init__ ?c_Found__init__ ?k_Found__init__ ?m_Found__init__ ?i_Model__init__ ?l_Model__init__ ?c_Model__init__ ?k_Model__init__ ?m_Model__init__ ?i_Model__eq__ ?l_Model__eq__ ?c_Model__eq__ ?k_Model__eq__ ?m_Model__eq__ ?i_Model__ne__ ?l_Model__ne__ ?c_Model__ne__ ?k_Model__ne__ ?m_Model__ne__ ?i_Paper__init__ ?l_Paper__init__ ?c_Paper__init__ ?k_Paper__init__ ?m_Paper__init__ ?i_Paper__eq__ ?l_Paper__eq__ ?c_Paper__eq__ ?k_Paper__eq__ ?m_Paper__eq__ ?i_Paper__ne__ ?l_Paper__ne__ ?c_Paper__ne__ ?k_Paper__ne__ ?m_Paper__ne__ ?i_Leaf__init__ ?l_Leaf__init__ ?c_Leaf__init__ ?k_Leaf__init__ ?m_Leaf__init__ ?i_Leaf__eq__ ?l_Leaf__eq__ ?c_Leaf__eq__ ?k_Leaf__eq__ ?m_Leaf__eq__ ?i_Leaf__ne__ ?l_Leaf__ne__ ?c_Leaf__ne__ ?k_Leaf__ne__ ?m_Leaf__ne__ ?i_Inverse__init__ ?l_Inverse__init__ ?c_Inverse__init__ ?k_Inverse__init__ ?m_Inverse__init__ ?i_Split__init__ ?l_Split__init__ ?c_Split__init__ ?k_Split__init__ ?m_Split__init__ ?mz_Nothing ?zm_list ?zm_isinstance ?zm_tuple ?ct ?zm_int ?zm_len ?zm_range ?zm_repr ?a_law ?l_law ?ci_law ?k_law
    (case a_copied => k_is)
    (case l_copied => k_is)
    (case c_copied => k_is)
    (case k_copied => k_is)
    (case a_model_key => k_is)
    (case l_model_key => k_is)
    (case c_model_key => k_is)
    (case k_model_key => k_is)
    (case a_leaf_key => k_is)
    (case l_leaf_key => k_is)
    (case c_leaf_key => k_is)
    (case k_leaf_key => k_is)
    (case a_paper_key => k_is)
    (case l_paper_key => k_is)
    (case c_paper_key => k_is)
    (case k_paper_key => k_is)
    (case a__law_pen => k_is)
    (case l__law_pen => k_is)
    (case c__law_pen => k_is)
    (case k__law_pen => k_is)
    (case a__law_draw => k_is)
    (case l__law_draw => k_is)
    (case c__law_draw => k_is)
    (case k__law_draw => k_is)
    (case a__law_pick => k_is)
    (case l__law_pick => k_is)
    (case c__law_pick => k_is)
    (case k__law_pick => k_is)
    (case a__law_value => k_is)
    (case l__law_value => k_is)
    (case c__law_value => k_is)
    (case k__law_value => k_is)
    (case a__law_copy => k_is)
    (case l__law_copy => k_is)
    (case c__law_copy => k_is)
    (case k__law_copy => k_is)
    (case a__law_fields => k_is)
    (case l__law_fields => k_is)
    (case c__law_fields => k_is)
    (case k__law_fields => k_is)
    (case a__law_rows => k_is)
    (case l__law_rows => k_is)
    (case c__law_rows => k_is)
    (case k__law_rows => k_is)
    (case aC_Leaf => k_is)
    (case aC_Paper => k_is)
    (case aC_Model => k_is)
    (case aC_Found => k_is)
    (case aC_NoDrawing => k_is)
    (case aC_Fails => k_is)
    (case aC_Always => k_is)
    (case aC_Inverse => k_is)
    (case aC_Nothing => k_is)
    (case aC_Split => k_is)
    (case i_Always__init__ => k_is)
    (case l_Always__init__ => k_is)
    (case c_Always__init__ => k_is)
    (case k_Always__init__ => k_is)
    (case m_Always__init__ => kernel_rfl)
    (case i_Always__eq__ => k_is)
    (case l_Always__eq__ => k_is)
    (case c_Always__eq__ => k_is)
    (case k_Always__eq__ => k_is)
    (case m_Always__eq__ => kernel_rfl)
    (case i_Always__ne__ => k_is)
    (case l_Always__ne__ => k_is)
    (case c_Always__ne__ => k_is)
    (case k_Always__ne__ => k_is)
    (case m_Always__ne__ => kernel_rfl)
    (case i_Fails__init__ => k_is)
    (case l_Fails__init__ => k_is)
    (case c_Fails__init__ => k_is)
    (case k_Fails__init__ => k_is)
    (case m_Fails__init__ => kernel_rfl)
    (case i_Fails__eq__ => k_is)
    (case l_Fails__eq__ => k_is)
    (case c_Fails__eq__ => k_is)
    (case k_Fails__eq__ => k_is)
    (case m_Fails__eq__ => kernel_rfl)
    (case i_Fails__ne__ => k_is)
    (case l_Fails__ne__ => k_is)
    (case c_Fails__ne__ => k_is)
    (case k_Fails__ne__ => k_is)
    (case m_Fails__ne__ => kernel_rfl)
    (case i_NoDrawing__init__ => k_is)
    (case l_NoDrawing__init__ => k_is)
    (case c_NoDrawing__init__ => k_is)
    (case k_NoDrawing__init__ => k_is)
    (case m_NoDrawing__init__ => kernel_rfl)
    (case i_NoDrawing__eq__ => k_is)
    (case l_NoDrawing__eq__ => k_is)
    (case c_NoDrawing__eq__ => k_is)
    (case k_NoDrawing__eq__ => k_is)
    (case m_NoDrawing__eq__ => kernel_rfl)
    (case i_NoDrawing__ne__ => k_is)
    (case l_NoDrawing__ne__ => k_is)
    (case c_NoDrawing__ne__ => k_is)
    (case k_NoDrawing__ne__ => k_is)
    (case m_NoDrawing__ne__ => kernel_rfl)
    (case i_Found__init__ => k_is)
    (case l_Found__init__ => k_is)
    (case c_Found__init__ => k_is)
    (case k_Found__init__ => k_is)
    (case m_Found__init__ => kernel_rfl)
    (case i_Model__init__ => k_is)
    (case l_Model__init__ => k_is)
    (case c_Model__init__ => k_is)
    (case k_Model__init__ => k_is)
    (case m_Model__init__ => kernel_rfl)
    (case i_Model__eq__ => k_is)
    (case l_Model__eq__ => k_is)
    (case c_Model__eq__ => k_is)
    (case k_Model__eq__ => k_is)
    (case m_Model__eq__ => kernel_rfl)
    (case i_Model__ne__ => k_is)
    (case l_Model__ne__ => k_is)
    (case c_Model__ne__ => k_is)
    (case k_Model__ne__ => k_is)
    (case m_Model__ne__ => kernel_rfl)
    (case i_Paper__init__ => k_is)
    (case l_Paper__init__ => k_is)
    (case c_Paper__init__ => k_is)
    (case k_Paper__init__ => k_is)
    (case m_Paper__init__ => kernel_rfl)
    (case i_Paper__eq__ => k_is)
    (case l_Paper__eq__ => k_is)
    (case c_Paper__eq__ => k_is)
    (case k_Paper__eq__ => k_is)
    (case m_Paper__eq__ => kernel_rfl)
    (case i_Paper__ne__ => k_is)
    (case l_Paper__ne__ => k_is)
    (case c_Paper__ne__ => k_is)
    (case k_Paper__ne__ => k_is)
    (case m_Paper__ne__ => kernel_rfl)
    (case i_Leaf__init__ => k_is)
    (case l_Leaf__init__ => k_is)
    (case c_Leaf__init__ => k_is)
    (case k_Leaf__init__ => k_is)
    (case m_Leaf__init__ => kernel_rfl)
    (case i_Leaf__eq__ => k_is)
    (case l_Leaf__eq__ => k_is)
    (case c_Leaf__eq__ => k_is)
    (case k_Leaf__eq__ => k_is)
    (case m_Leaf__eq__ => kernel_rfl)
    (case i_Leaf__ne__ => k_is)
    (case l_Leaf__ne__ => k_is)
    (case c_Leaf__ne__ => k_is)
    (case k_Leaf__ne__ => k_is)
    (case m_Leaf__ne__ => kernel_rfl)
    (case i_Inverse__init__ => k_is)
    (case l_Inverse__init__ => k_is)
    (case c_Inverse__init__ => k_is)
    (case k_Inverse__init__ => k_is)
    (case m_Inverse__init__ => kernel_rfl)
    (case i_Split__init__ => k_is)
    (case l_Split__init__ => k_is)
    (case c_Split__init__ => k_is)
    (case k_Split__init__ => k_is)
    (case m_Split__init__ => kernel_rfl)
    (case mz_Nothing => kernel_rfl)
    (case zm_list => k_is)
    (case zm_isinstance => k_is)
    (case zm_tuple => k_is)
    (case ct => kernel_rfl)
    (case zm_int => k_is)
    (case zm_len => k_is)
    (case zm_range => k_is)
    (case zm_repr => k_is)
    (case a_law => k_is)
    (case l_law => k_is)
    (case ci_law => k_is)
    (case k_law => k_is)



